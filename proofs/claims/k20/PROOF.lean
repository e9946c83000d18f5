import PyProof.Rows.All
import HandS.ForMost
import HandS.Zip
import HandS.Rev
import HandS.Deep
import HandS.TupAny
import HandS.SortInts
import HandS.Style
import HandS.IsInst
import HandS.Conv
import HandS.Strs
import HandS.Dict
import HandS.SortRule
import KE.DatumOrd
import HandS.DictTup
import KE.KDictSum
import HandS.Iter
import HandS.TupLen
import HandS.WordsDict
import HandS.SetFor
import HandS.Remove
import KE.GoesMore
import KE.KDictZip
import HandS.TupMul
import HandS.TupLe
import PyProof.StrOps2
import HandS.NamedTupSort
import HandS.TupSets
import HandS.Exc
import HandS.ExcOwn
import HandS.TryOnly
import HandS.ExcIs
import HandS.WordsExc
import HandS.Wide
import HandS.SortKw
import PySem.Challenge.RW_rillturn_k20_all_falls
set_option Elab.async false
set_option linter.all false
namespace G7
open PySem

abbrev D := PyData
abbrev En := List (Option D)
abbrev WE := En → (D → En → Prop) → Prop
abbrev WT := En → (Bool → En → Prop) → Prop
abbrev WA := En → (List D → En → Prop) → Prop
abbrev WI := En → (List D → En → Prop) → Prop
structure WD where
  nx : En → Prop
  rt : D → En → Prop
  bk : En → Prop := fun _ => False
  ct : En → Prop := fun _ => False
abbrev WS := WD → En → Prop
abbrev WG := D → En → Option En
/-- what a def is asked: arguments, what is wanted of the answer -/
abbrev FS := List D → (D → Prop) → Prop

def lim : Nat := 1000000

def wVar (i : Nat) : WE := fun e Q => ∃ d, e[i]? = some (some d) ∧ Q d e
def wC (d : D) : WE := fun e Q => Q d e
def wOp1 (f : D → Option D) (a : WE) : WE := fun e Q => a e fun x e1 => ∃ z, f x = some z ∧ Q z e1
def wOp2 (f : D → D → Option D) (a b : WE) : WE := fun e Q => a e fun x e1 => b e1 fun y e2 => ∃ z, f x y = some z ∧ Q z e2
def waNil : WA := fun e Q => Q [] e
def waCons (a : WE) (r : WA) : WA := fun e Q => a e fun x e1 => r e1 fun xs e2 => Q (x :: xs) e2
def wList (a : WA) : WE := fun e Q => a e fun xs e1 => xs.length ≤ lim ∧ Q (.list xs) e1
def wTup (a : WA) : WE := fun e Q => a e fun xs e1 => xs.length ≤ lim ∧ Q (.tuple xs) e1
def wCall (S : FS) (a : WA) : WE := fun e Q => a e fun xs e1 => S xs fun r => Q r e1
def wBlt (f : List D → Option D) (a : WA) : WE := fun e Q => a e fun xs e1 => ∃ z, f xs = some z ∧ Q z e1
/-- a slice: lower and upper ends may lie open -/
abbrev WO := En → (Option Int → En → Prop) → Prop
def woN : WO := fun e Q => Q none e
def woS (a : WE) : WO := fun e Q => a e fun x e1 => ∃ i, x = .int i ∧ Q (some i) e1
def wSl (f : D → Option Int → Option Int → Option D) (a : WE) (lo hi : WO) : WE := fun e Q => a e fun x e1 => lo e1 fun l e2 => hi e2 fun h e3 => ∃ z, f x l h = some z ∧ Q z e3
def tVal (a : WE) : WT := fun e Q => a e fun x e1 => ∃ b, x = .bool b ∧ Q b e1
def tAnd (s t : WT) : WT := fun e Q => s e fun b e1 => if b = true then t e1 Q else Q false e1
def tOr (s t : WT) : WT := fun e Q => s e fun b e1 => if b = true then Q true e1 else t e1 Q
def tNot (s : WT) : WT := fun e Q => s e fun b e1 => Q (!b) e1
def wAnd (a b : WE) : WE := fun e Q => a e fun x e1 => ∃ c, x = .bool c ∧ if c = true then b e1 Q else Q (.bool false) e1
def wOr (a b : WE) : WE := fun e Q => a e fun x e1 => ∃ c, x = .bool c ∧ if c = true then Q (.bool true) e1 else b e1 Q
def wNot (a : WE) : WE := fun e Q => a e fun x e1 => ∃ c, x = .bool c ∧ Q (.bool (!c)) e1
def wIfE (t : WT) (a b : WE) : WE := fun e Q => t e fun c e1 => if c = true then a e1 Q else b e1 Q
/-- a op1 b op2 c -/
def wChain (f g : D → D → Option D) (a b c : WE) : WE := fun e Q => a e fun x e1 => b e1 fun y e2 => ∃ k, f x y = some (.bool k) ∧
  if k = true then c e2 fun z e3 => ∃ r, g y z = some r ∧ Q r e3 else Q (.bool false) e2
def wNil : WS := fun W e => W.nx e
def wSeq (a b : WS) : WS := fun W e => a { W with nx := fun e1 => b W e1 } e
def wAsg (i : Nat) (a : WE) : WS := fun W e => a e fun x e1 => W.nx (e1.set i (some x))
def wAsgG (g : WG) (a : WE) : WS := fun W e => a e fun x e1 => ∃ e2, g x e1 = some e2 ∧ W.nx e2
def wExpr (a : WE) : WS := fun W e => a e fun _ e1 => W.nx e1
def wRet (a : WE) : WS := fun W e => a e W.rt
def wRetN : WS := fun W e => W.rt .none e
def wIf (t : WT) (a b : WS) : WS := fun W e => t e fun c e1 => if c = true then a W e1 else b W e1
def wNever : WS := fun _ _ => False
def wBreak : WS := fun W e => W.bk e
def wCont : WS := fun W e => W.ct e
def forL (g : WG) (b : WS) (W : WD) : List D → En → Prop
  | [], e => W.nx e
  | x :: xs, e => ∃ e1, g x e = some e1 ∧ b { W with nx := forL g b W xs, ct := forL g b W xs, bk := W.nx } e1
def wFor (it : WI) (g : WG) (b : WS) : WS := fun W e => it e fun xs e1 => forL g b W xs e1
def whileN (t : WT) (b : WS) (W : WD) : Nat → En → Prop
  | 0, _ => False
  | n + 1, e => t e fun c e1 => if c = true then b { W with nx := whileN t b W n, ct := whileN t b W n, bk := W.nx } e1 else W.nx e1
def wWhile (t : WT) (b : WS) : WS := fun W e => ∃ n, whileN t b W n e
def gN (i : Nat) : WG := fun x e => some (e.set i (some x))
def gAll : List WG → List D → En → Option En
  | [], [], e => some e
  | g :: gs, x :: xs, e => (g x e).bind fun e1 => gAll gs xs e1
  | _, _, _ => none
def gT (gs : List WG) : WG := fun x e => match x with
  | .tuple xs => gAll gs xs e
  | _ => none
def wp (e : En) : List Nat → En
  | [] => e
  | v :: vs => (wp e vs).set v none
def back (e e2 : En) : List Nat → En
  | [] => e2
  | v :: vs => (back e e2 vs).set v ((e[v]?).getD none)
def compL (g : WG) (vs : List Nat) (t : WT) (b : WE) (Q : List D → En → Prop) : List D → List D → En → Prop
  | [], acc, e => Q acc e
  | x :: xs, acc, e => ∃ e1, g x e = some e1 ∧ t e1 fun c e2 => if c = true then b e2 fun y e3 => compL g vs t b Q xs (acc ++ [y]) (wp e3 vs) else compL g vs t b Q xs acc (wp e2 vs)
def wComp (it : WI) (g : WG) (vs : List Nat) (t : WT) (b : WE) : WE := fun e Q => it e fun xs e1 => compL g vs t b (fun acc e2 => Q (.list acc) (back e1 e2 vs)) xs [] (wp e1 vs)
def tYes : WT := fun e Q => Q true e
def seqD : D → Option (List D)
  | .list xs => some xs
  | .tuple xs => some xs
  | .dict [(.none, .tuple xs)] => some xs
  | _ => none
def rangeD (lo hi : Int) : List D := (List.range (hi - lo).toNat).map fun (i : Nat) => .int (lo + (i : Int))
def wiSeq (a : WE) : WI := fun e Q => a e fun x e1 => ∃ xs, seqD x = some xs ∧ Q xs e1
def wiRg1 (a : WE) : WI := fun e Q => a e fun x e1 => ∃ n : Int, x = .int n ∧ -(lim : Int) ≤ n ∧ n ≤ (lim : Int) ∧ Q (rangeD 0 n) e1
def wiRg2 (a b : WE) : WI := fun e Q => a e fun x e1 => b e1 fun y e2 => ∃ m n : Int, x = .int m ∧ y = .int n ∧ -(lim : Int) ≤ m ∧ m ≤ lim ∧ -(lim : Int) ≤ n ∧ n ≤ (lim : Int) ∧ Q (rangeD m n) e2
def zipD (xs ys : List D) : List D := List.zipWith (fun x y => .tuple [x, y]) xs ys
def enumD (xs : List D) : List D := zipD (rangeD 0 xs.length) xs
def wiEnum (a : WE) : WI := fun e Q => a e fun x e1 => ∃ xs, seqD x = some xs ∧ Q (enumD xs) e1
def wiRev (a : WE) : WI := fun e Q => a e fun x e1 => ∃ xs, seqD x = some xs ∧ Q xs.reverse e1
def ixN (n : Nat) (i : Int) : Option Nat := if 0 ≤ i then (if i < n then some i.toNat else none) else if -(n : Int) ≤ i then some (i + n).toNat else none
/-- slot i holds a list: f tells its new content and the value of the expression -/
def wMut (i : Nat) (f : List D → List D → Option (D × List D)) (a : WA) : WE := fun e Q => (∃ xs, e[i]? = some (some (.list xs))) ∧ a e fun ys e1 => ∃ xs z xs', e1[i]? = some (some (.list xs)) ∧ f xs ys = some (z, xs') ∧ Q z (e1.set i (some (.list xs')))

/-- slot i holds a list, an item of which is stored -/
def wSetIx (i : Nat) (v ix : WE) : WS := fun W e => v e fun y e1 => (∃ xs, e1[i]? = some (some (.list xs))) ∧ ix e1 fun j e2 => ∃ k xs m, j = .int k ∧ e2[i]? = some (some (.list xs)) ∧ ixN xs.length k = some m ∧ W.nx (e2.set i (some (.list (xs.set m y))))

def okMul (i j : Int) : Bool := decide ((-(2 ^ 64) < i ∧ i < 2 ^ 64) ∨ (-(2 ^ 64) < j ∧ j < 2 ^ 64))
def addD : D → D → Option D
  | .int a, .int b => some (.int (a + b))
  | .list a, .list b => if a.length + b.length ≤ lim then some (.list (a ++ b)) else none
  | .tuple a, .tuple b => if a.length + b.length ≤ lim then some (.tuple (a ++ b)) else none
  | _, _ => none
def subD : D → D → Option D
  | .int a, .int b => some (.int (a - b))
  | _, _ => none
def fdivD : D → D → Option D
  | .int a, .int b => if 0 < b ∧ b < 1073741824 then some (.int (a / b)) else none
  | _, _ => none
def modD : D → D → Option D
  | .int a, .int b => if 0 < b then some (.int (a % b)) else none
  | _, _ => none
def powD : D → D → Option D
  | .int a, .int b => if 0 ≤ b ∧ b ≤ 1000000 ∧ a.natAbs < 2 ^ 64 then some (.int (a ^ b.toNat)) else none
  | _, _ => none
def negD : D → Option D
  | .int a => some (.int (-a))
  | _ => none
def icmp (p : Int → Int → Bool) : D → D → Option D
  | .int a, .int b => some (.bool (p a b))
  | _, _ => none
def leD := icmp fun a b => decide (a ≤ b)
def gtD := icmp fun a b => decide (b < a)
def geD := icmp fun a b => decide (b ≤ a)
def intsD : List D → Option (List Int)
  | [] => some []
  | .int i :: r => (intsD r).map (i :: ·)
  | _ => none
/-- < of ints, of tuples of ints -/
def ltD : D → D → Option D
  | .int a, .int b => some (.bool (decide (a < b)))
  | .tuple a, .tuple b => (intsD a).bind fun xs => (intsD b).map fun ys => .bool (HT.lexLt xs ys)
  | _, _ => none
/-- data without dicts, texts short: may be compared -/
def okD (d : D) : Bool := SeqAt.shaped d
def eqD (x y : D) : Option D := if okD x = true ∧ okD y = true then some (.bool (PyData.eqv x y)) else none
def neD (x y : D) : Option D := if okD x = true ∧ okD y = true then some (.bool (!PyData.eqv x y)) else none
def inD (x y : D) : Option D := match seqD y with
  | some ys => if okD x = true ∧ okD y = true then some (.bool (ys.any fun z => PyData.eqv z x)) else none
  | none => none
def notInD (x y : D) : Option D := match seqD y with
  | some ys => if okD x = true ∧ okD y = true then some (.bool (!(ys.any fun z => PyData.eqv z x))) else none
  | none => none
def isNoneD : D → Option D
  | .none => some (.bool true)
  | _ => some (.bool false)
def notNoneD : D → Option D
  | .none => some (.bool false)
  | _ => some (.bool true)
def ixD : D → D → Option D
  | .list xs, .int i => (ixN xs.length i).bind fun j => xs[j]?
  | .tuple xs, .int i => (ixN xs.length i).bind fun j => xs[j]?
  | .dict [(.none, .tuple xs)], .int i => (ixN xs.length i).bind fun j => xs[j]?
  | _, _ => none
def cut (xs : List D) (lo hi : Option Int) : List D := (xs.drop (HT.sIx xs.length 0 lo)).take (HT.sIx xs.length xs.length hi - HT.sIx xs.length 0 lo)
def slD : D → Option Int → Option Int → Option D
  | .list xs, lo, hi => some (.list (cut xs lo hi))
  | .tuple xs, lo, hi => some (.tuple (cut xs lo hi))
  | .dict [(.none, .tuple xs)], lo, hi => some (if HT.sIx xs.length 0 lo = 0 ∧ HT.sIx xs.length xs.length hi = xs.length then .dict [(.none, .tuple xs)] else .tuple (cut xs lo hi))
  | _, _, _ => none
def lenD : List D → Option D
  | [.list xs] => some (.int xs.length)
  | [.tuple xs] => some (.int xs.length)
  | [.dict [(.none, .tuple xs)]] => some (.int xs.length)
  | _ => none
def tupD : List D → Option D
  | [.list xs] => some (.tuple xs)
  | [.tuple xs] => some (.tuple xs)
  | [.dict [(.none, .tuple xs)]] => some (.dict [(.none, .tuple xs)])
  | _ => none
def lstD : List D → Option D
  | [.list xs] => some (.list xs)
  | [.tuple xs] => some (.list xs)
  | [.dict [(.none, .tuple xs)]] => some (.list xs)
  | _ => none
def max2D : List D → Option D
  | [.int a, .int b] => some (.int (if b > a then b else a))
  | _ => none
def min2D : List D → Option D
  | [.int a, .int b] => some (.int (if b < a then b else a))
  | _ => none
def intD : List D → Option D
  | [.int a] => some (.int a)
  | [.bool b] => some (.int (if b then 1 else 0))
  | _ => none
def boolsD : List D → Option (List Bool)
  | [] => some []
  | .bool i :: r => (boolsD r).map (i :: ·)
  | _ => none
def allD : List D → Option D
  | [.list xs] => (boolsD xs).map fun bs => .bool (bs.all id)
  | _ => none
def anyD : List D → Option D
  | [.list xs] => (boolsD xs).map fun bs => .bool (bs.any id)
  | _ => none
def appendF (xs ys : List D) : Option (D × List D) := match ys with
  | [y] => if xs.length < lim then some (.none, xs ++ [y]) else none
  | _ => none
def popAtF (xs ys : List D) : Option (D × List D) := match ys with
  | [.int i] => (ixN xs.length i).bind fun j => (xs[j]?).map fun y => (y, xs.eraseIdx j)
  | _ => none
def extendF (xs ys : List D) : Option (D × List D) := match ys with
  | [.list zs] => if xs.length + zs.length ≤ lim then some (.none, xs ++ zs) else none
  | _ => none
end G7

set_option maxRecDepth 100000
namespace G7
open PySem PySem.Spec PyProof.Rows L2

abbrev St := L2.St
inductive SK where | x (a : Addr) | v | r | o | q | l | p | f
  deriving DecidableEq
/-- kinds whose thing is nobody else's to take -/
def isQ : SK → Bool
  | .q => true
  | .l => true
  | _ => false
inductive RK where | fz | rd | nw | ow (i : Nat) | pl | np
  deriving DecidableEq
def RK.rdable : RK → Bool
  | .pl => false
  | .np => false
  | _ => true
structure Rg where
  O : Addr → Prop
  P : Addr → Prop
  I : Addr → Prop
  al : Nat → Option Addr
def Rg.own (g : Rg) (a : Addr) : Prop := g.O a ∨ ∃ i, g.al i = some a

/-- a tuple of the written part -/
def KTup (K : PySem.W.Frag) (a : Addr) (xs : List V) : Prop :=
  ∃ (o : Obj) (its : Array Value) (n : Nat), K.lookup a = some o ∧ o.cls = .type "tuple" ∧ o.data = .seq its n ∧ its.size ≤ sizeLine ∧ Vals xs its.toList
def kD : Key → D
  | .inl i => .int i
  | .inr x => .str x
def tD (k : List Key) : D := .tuple (k.map kD)
/-- a tuple of which the whole object is known (its methods may be called) -/
def xtD (ds : List D) : D := .dict [(.none, .tuple ds)]
/-- a tuple that is laid as a key of a dict -/
abbrev ktD (ds : List D) : D := .dict [(.bool true, .tuple ds)]
/-- whether an empty tuple may be a key; if not, it may be told of a frozen one -/
def tupX : Bool := false
/-- a tuple that is no key may be told of a frozen one -/
def frzOk0 : List D → Bool
  | [] => !tupX
  | .tuple _ :: _ => true
  | _ => false
/-- whether new tuples of so many items are laid with their objects (they are no keys then) -/
def tupF (_ : Nat) : Bool := false
/-- how many items a tuple may have that is a key -/
def keyLen (_ : Nat) : Bool := true
abbrev KeySafe : Prop := ∀ n, keyLen n = true → tupF n = false
def frzOk (ds : List D) : Bool := tupF ds.length || frzOk0 ds
def plOk (ds : List D) : Bool := !tupF ds.length
theorem plOkF {ds : List D} (hF : tupF ds.length = false) : plOk ds = true := by
  unfold plOk
  rw [hF]; rfl
def RdT (H : Hp) (a : Addr) (u : HO) (ds : List D) : Prop := (plOk ds = true ∧ H a = some u) ∨ (frzOk ds = true ∧ ∃ o, H a = some (.frz o u) ∧ o.dict = none)
/-- a new tuple as it is laid -/
def MkT (o : HO) (xs : List V) : Prop := if tupF xs.length = true then ∃ ob : Obj, ob.dict = none ∧ o = .frz ob (.tup xs) else o = .tup xs
theorem MkT.rdT {o : HO} {xs : List V} {H : Hp} {a : Addr} {ds : List D} (m : MkT o xs) (hl : xs.length = ds.length) (e : H a = some o) : RdT H a (.tup xs) ds := by
  unfold MkT at m
  split at m
  · next h =>
    obtain ⟨ob, hd, rfl⟩ := m
    exact .inr ⟨by unfold frzOk; rw [← hl, h]; rfl, ob, e, hd⟩
  · next h =>
    subst m
    exact .inl ⟨plOkF (by rw [← hl]; simpa using h), e⟩
theorem MkT.nl {o : HO} {xs ts : List V} (m : MkT o xs) : o ≠ .lst ts := fun e => by
  unfold MkT at m
  split at m
  · obtain ⟨ob, _, rfl⟩ := m; cases e
  · subst m; cases e
section
variable {X : Cx}
/-- a tuple laid -/
theorem mk_laid {pins : List (Addr × Obj)} {σ : St} {H : Hp} {s : Shared} {xs : List V} {its : List Value} {ob : Obj} (I : Inv X pins σ H s) (r : Vals xs its) (z : xs.length ≤ sizeLine) (ho : ob = { cls := .type "tuple", data := .seq its.toArray }) :
    ∃ o, MkT o xs ∧ Inv X pins σ (upd H s.heap.objs.size o) { s with heap := s.heap.push ob } := by
  subst ho
  have new : ∀ H' : Hp, ObjOk X.prog X.w H' (s.heap.push { cls := .type "tuple", data := .seq its.toArray }) s.heap.objs.size (.tup xs) := fun _ => ⟨z, its, r, ⟨_, Heap.get?_push_size _ rfl, rfl, _, rfl⟩⟩
  by_cases hF : tupF xs.length = true
  · refine ⟨.frz { cls := .type "tuple", data := .seq its.toArray } (.tup xs), ?_, I.laid (t' := s.toks) (fun _ _ q => Heap.get?_push_of_some _ q) (Nat.le_refl _) ⟨Heap.get?_push_size _ rfl, new _⟩⟩
    unfold MkT
    rw [if_pos hF]
    exact ⟨_, rfl, rfl⟩
  · refine ⟨.tup xs, ?_, I.laid (t' := s.toks) (fun _ _ q => Heap.get?_push_of_some _ q) (Nat.le_refl _) (new _)⟩
    unfold MkT
    rw [if_neg hF]
end

section
variable (K : PySem.W.Frag) (H : Hp) (S : Addr → Prop)
mutual
inductive Rep (K : PySem.W.Frag) (H : Hp) (S : Addr → Prop) : V → D → Prop
  | non : Rep K H S .non .none
  | bl (b : Bool) : Rep K H S (.bl b) (.bool b)
  | int (i : Int) : Rep K H S (.int i) (.int i)
  | str (x : Str) : Rep K H S (.str x) (.str x)
  | lst {a : Addr} {xs : List V} {ds : List D} : ¬ S a → H a = some (.lst xs) → xs.length ≤ sizeLine → RepAll K H S xs ds → Rep K H S (.ref a) (.list ds)
  | tup {a : Addr} {xs : List V} {ds : List D} : ¬ S a → RdT H a (.tup xs) ds → xs.length ≤ sizeLine → RepAll K H S xs ds → Rep K H S (.ref a) (.tuple ds)
  | dK {a : Addr} {kvs : List (Key × V)} {ds : List D} : ¬ S a → H a = some (.dK kvs) → RepAll K H S (kvs.map (·.2)) ds → Rep K H S (.ref a) (.dict ((kvs.map fun p => kD p.1).zip ds))
  | dT {a : Addr} {kvs : List (List Key × V)} {ds : List D} : ¬ S a → H a = some (.dT kvs) → RepAll K H S (kvs.map (·.2)) ds → Rep K H S (.ref a) (.dict ((.none, .none) :: (kvs.map fun p => tD p.1).zip ds))
  | xt {a : Addr} {o : Obj} {xs : List V} {ds : List D} : ¬ S a → H a = some (.frz o (.tup xs)) → o.dict = none → xs.length ≤ sizeLine → RepAll K H S xs ds → Rep K H S (.ref a) (.dict [(.none, .tuple ds)])
  | kt {a : Addr} {xs : List V} {ds : List D} : ¬ S a → H a = some (.tup xs) → xs.length ≤ sizeLine → RepAll K H S xs ds → Rep K H S (.ref a) (.dict [(.bool true, .tuple ds)])
inductive RepAll (K : PySem.W.Frag) (H : Hp) (S : Addr → Prop) : List V → List D → Prop
  | nil : RepAll K H S [] []
  | cons {v : V} {vs : List V} {d : D} {ds : List D} : Rep K H S v d → RepAll K H S vs ds → RepAll K H S (v :: vs) (d :: ds)
end
end

section
variable {K : PySem.W.Frag} {H H' : Hp} {S S' : Addr → Prop}
theorem rd_keep {a : Addr} {u : HO} (k : ∀ o, H a = some o → H' a = some o) (h : Rd H a u) : Rd H' a u := by
  rcases h with h | ⟨o, h⟩
  · exact .inl (k _ h)
  · exact .inr ⟨o, k _ h⟩
theorem rdT_keep {a : Addr} {u : HO} {ds : List D} (k : ∀ o, H a = some o → H' a = some o) (h : RdT H a u ds) : RdT H' a u ds := by
  rcases h with ⟨x, h⟩ | ⟨x, o, h, d⟩
  · exact .inl ⟨x, k _ h⟩
  · exact .inr ⟨x, o, k _ h, d⟩
theorem rdT_rd {a : Addr} {u : HO} {ds : List D} (h : RdT H a u ds) : Rd H a u := h.elim (fun q => .inl q.2) fun ⟨_, o, q, _⟩ => .inr ⟨o, q⟩
theorem rd_tracked {a : Addr} {u : HO} (h : Rd H a u) : H a ≠ none := by
  rcases h with h | ⟨o, h⟩ <;> rw [h] <;> simp
mutual
/-- what is kept off S stays told; S' may be wider by what was not there -/
theorem Rep.keep (k : ∀ a o, ¬ S a → H a = some o → H' a = some o) (hs : ∀ a, S' a → S a ∨ H a = none) : ∀ {d : D} {v : V}, Rep K H S v d → Rep K H' S' v d
  | _, _, .non => .non
  | _, _, .bl b => .bl b
  | _, _, .int i => .int i
  | _, _, .str x => .str x
  | _, _, .lst n r z al => .lst (fun q => (hs _ q).elim n fun e => by rw [r] at e; cases e) (k _ _ n r) z (al.keep k hs)
  | _, _, .tup n r z al => .tup (fun q => (hs _ q).elim n fun e => rd_tracked (rdT_rd r) e) (rdT_keep (fun o e => k _ o n e) r) z (al.keep k hs)
  | _, _, .dK n r al => .dK (fun q => (hs _ q).elim n fun e => by rw [r] at e; cases e) (k _ _ n r) (al.keep k hs)
  | _, _, .dT n r al => .dT (fun q => (hs _ q).elim n fun e => by rw [r] at e; cases e) (k _ _ n r) (al.keep k hs)
  | _, _, .xt n r e z al => .xt (fun q => (hs _ q).elim n fun e => by rw [r] at e; cases e) (k _ _ n r) e z (al.keep k hs)
  | _, _, .kt n r z al => .kt (fun q => (hs _ q).elim n fun e => by rw [r] at e; cases e) (k _ _ n r) z (al.keep k hs)
theorem RepAll.keep (k : ∀ a o, ¬ S a → H a = some o → H' a = some o) (hs : ∀ a, S' a → S a ∨ H a = none) : ∀ {ds : List D} {vs : List V}, RepAll K H S vs ds → RepAll K H' S' vs ds
  | _, _, .nil => .nil
  | _, _, .cons r t => .cons (r.keep k hs) (t.keep k hs)
end
theorem RepAll.length : ∀ {vs : List V} {ds : List D}, RepAll K H S vs ds → vs.length = ds.length
  | _, _, .nil => rfl
  | _, _, .cons _ t => by simp [RepAll.length t]
theorem RepAll.get : ∀ {vs : List V} {ds : List D} {i : Nat} {d : D}, RepAll K H S vs ds → ds[i]? = some d → ∃ v, vs[i]? = some v ∧ Rep K H S v d
  | _, _, _, _, .nil, e => by simp at e
  | _, _, 0, _, .cons r _, e => by simp at e; subst e; exact ⟨_, rfl, r⟩
  | _, _, i + 1, d, .cons _ t, e => by
    obtain ⟨u, h1, h2⟩ := RepAll.get (i := i) (d := d) t (by simpa using e)
    exact ⟨u, by simpa using h1, h2⟩
theorem RepAll.getV : ∀ {vs : List V} {ds : List D} {i : Nat} {v : V}, RepAll K H S vs ds → vs[i]? = some v → ∃ d, ds[i]? = some d ∧ Rep K H S v d
  | _, _, _, _, .nil, e => by simp at e
  | _, _, 0, _, .cons r _, e => by simp at e; subst e; exact ⟨_, rfl, r⟩
  | _, _, i + 1, d, .cons _ t, e => by
    obtain ⟨u, h1, h2⟩ := RepAll.getV (i := i) (v := d) t (by simpa using e)
    exact ⟨u, by simpa using h1, h2⟩
theorem RepAll.append : ∀ {vs ws : List V} {ds es : List D}, RepAll K H S vs ds → RepAll K H S ws es → RepAll K H S (vs ++ ws) (ds ++ es)
  | _, _, _, _, .nil, s => s
  | _, _, _, _, .cons r t, s => .cons r (RepAll.append t s)
theorem RepAll.take : ∀ {vs : List V} {ds : List D} (n : Nat), RepAll K H S vs ds → RepAll K H S (vs.take n) (ds.take n)
  | _, _, 0, _ => by simp; exact .nil
  | _, _, _ + 1, .nil => .nil
  | _, _, n + 1, .cons r t => .cons r (RepAll.take n t)
theorem RepAll.drop : ∀ {vs : List V} {ds : List D} (n : Nat), RepAll K H S vs ds → RepAll K H S (vs.drop n) (ds.drop n)
  | _, _, 0, h => h
  | _, _, _ + 1, .nil => .nil
  | _, _, n + 1, .cons _ t => RepAll.drop n t
theorem RepAll.reverse : ∀ {vs : List V} {ds : List D}, RepAll K H S vs ds → RepAll K H S vs.reverse ds.reverse
  | _, _, .nil => .nil
  | _, _, .cons r t => by simp only [List.reverse_cons]; exact (RepAll.reverse t).append (.cons r .nil)
theorem RepAll.eraseIdx : ∀ {vs : List V} {ds : List D} (n : Nat), RepAll K H S vs ds → RepAll K H S (vs.eraseIdx n) (ds.eraseIdx n)
  | _, _, _, .nil => .nil
  | _, _, 0, .cons _ t => t
  | _, _, n + 1, .cons r t => .cons r (RepAll.eraseIdx n t)
theorem RepAll.set {v : V} {d : D} (r : Rep K H S v d) : ∀ {vs : List V} {ds : List D} (n : Nat), RepAll K H S vs ds → RepAll K H S (vs.set n v) (ds.set n d)
  | _, _, _, .nil => .nil
  | _, _, 0, .cons _ t => .cons r t
  | _, _, n + 1, .cons q t => .cons q (RepAll.set r n t)
theorem RepAll.rep {vs : List V} {ds : List D} (h : RepAll K H S vs ds) : ∀ k : Nat, RepAll K H S (List.replicate k vs).flatten (List.replicate k ds).flatten
  | 0 => .nil
  | k + 1 => by simp only [List.replicate_succ, List.flatten_cons]; exact h.append (h.rep k)
theorem Rep.toInt {v : V} {i : Int} (r : Rep K H S v (.int i)) : v = .int i := by cases r; rfl
theorem Rep.toBl {v : V} {i : Bool} (r : Rep K H S v (.bool i)) : v = .bl i := by cases r; rfl
theorem Rep.toStr {v : V} {i : Str} (r : Rep K H S v (.str i)) : v = .str i := by cases r; rfl
theorem Rep.toTup {v : V} {ds : List D} (r : Rep K H S v (.tuple ds)) : ∃ a xs, v = .ref a ∧ ((¬ S a ∧ Rd H a (.tup xs)) ∨ KTup K a xs) ∧ xs.length ≤ sizeLine ∧ RepAll K H S xs ds := by
  cases r with | tup n r z al => exact ⟨_, _, rfl, .inl ⟨n, rdT_rd r⟩, z, al⟩
theorem Rep.toTupX {v : V} {ds : List D} (hF : tupF ds.length = false) (hx : frzOk0 ds = false) (r : Rep K H S v (.tuple ds)) : ∃ a xs, v = .ref a ∧ ¬ S a ∧ H a = some (.tup xs) ∧ xs.length ≤ sizeLine ∧ RepAll K H S xs ds := by
  cases r with
  | tup n r z al => exact ⟨_, _, rfl, n, r.elim (fun q => q.2) fun q => absurd q.1 (by unfold frzOk; rw [hx, hF]; simp), z, al⟩
theorem Rep.toXt {v : V} {ds : List D} (r : Rep K H S v (xtD ds)) : ∃ a o xs, v = .ref a ∧ ¬ S a ∧ H a = some (.frz o (.tup xs)) ∧ o.dict = none ∧ xs.length ≤ sizeLine ∧ RepAll K H S xs ds := by
  unfold xtD at r
  generalize hd : PyData.dict [(.none, .tuple ds)] = d at r
  cases r with
  | xt n r e z al => cases hd; exact ⟨_, _, _, rfl, n, r, e, z, al⟩
  | @dK a kvs ds' n r al =>
    have := (PyData.dict.inj hd).symm
    cases kvs with
    | nil => simp at this
    | cons p kvs => cases ds' with
      | nil => simp at this
      | cons x ds' =>
        simp at this
        obtain ⟨⟨h1, _⟩, _⟩ := this
        cases hp : p.1 <;> rw [hp] at h1 <;> cases h1
  | dT n r al => cases hd
  | _ => cases hd
theorem Rep.toKt {v : V} {ds : List D} (r : Rep K H S v (ktD ds)) : ∃ a xs, v = .ref a ∧ ¬ S a ∧ H a = some (.tup xs) ∧ xs.length ≤ sizeLine ∧ RepAll K H S xs ds := by
  unfold ktD at r
  generalize hd : PyData.dict [(.bool true, .tuple ds)] = d at r
  cases r with
  | kt n r z al => cases hd; exact ⟨_, _, rfl, n, r, z, al⟩
  | @dK a kvs ds' n r al =>
    have := (PyData.dict.inj hd).symm
    cases kvs with
    | nil => simp at this
    | cons p kvs => cases ds' with
      | nil => simp at this
      | cons x ds' =>
        simp at this
        obtain ⟨⟨h1, _⟩, _⟩ := this
        cases hp : p.1 <;> rw [hp] at h1 <;> cases h1
  | dT n r al => cases hd
  | _ => cases hd
theorem sqT_of {a : Addr} {xs : List V} (h : (¬ S a ∧ Rd H a (.tup xs)) ∨ KTup K a xs) : SqT K H a xs := h.elim (fun q => .inl q.2) .inr
end

/-- a tuple, known whole or not -/
def tupOf : D → Option (List D)
  | .tuple xs => some xs
  | .dict [(.none, .tuple xs)] => some xs
  | _ => none
theorem tupOf_cases {d : D} {ds : List D} (h : tupOf d = some ds) : d = .tuple ds ∨ d = xtD ds := by
  unfold tupOf at h
  split at h
  · cases h; exact .inl rfl
  · cases h; exact .inr rfl
  · cases h
theorem Rep.toTupO {K : PySem.W.Frag} {H : Hp} {S : Addr → Prop} {v : V} {d : D} {ds : List D} (h : tupOf d = some ds) (r : Rep K H S v d) : ∃ a xs, v = .ref a ∧ ((¬ S a ∧ Rd H a (.tup xs)) ∨ KTup K a xs) ∧ xs.length ≤ sizeLine ∧ RepAll K H S xs ds := by
  rcases tupOf_cases h with rfl | rfl
  · exact r.toTup
  · obtain ⟨a, o, xs, rfl, n, e, _, z, al⟩ := r.toXt
    exact ⟨a, xs, rfl, .inl ⟨n, .inr ⟨o, e⟩⟩, z, al⟩
/-- a dict's data is no tuple's, but for one -/
theorem dict_xt (kvs : List (D × D)) : (∃ xs, kvs = [(.none, .tuple xs)]) ∨ ∀ xs, kvs ≠ [(.none, .tuple xs)] := by
  by_cases h : ∃ xs, kvs = [(.none, .tuple xs)]
  · exact .inl h
  · exact .inr fun xs e => h ⟨xs, e⟩
/-- at a stands a list, or a dict, that may be written -/
inductive Obj1 (K : PySem.W.Frag) (H : Hp) (S : Addr → Prop) (a : Addr) : D → Prop
  | lst {xs : List V} {ds : List D} : H a = some (.lst xs) → xs.length ≤ sizeLine → RepAll K H S xs ds → Obj1 K H S a (.list ds)
  | dK {kvs : List (Key × V)} {ds : List D} : H a = some (.dK kvs) → RepAll K H S (kvs.map (·.2)) ds → Obj1 K H S a (.dict ((kvs.map fun p => kD p.1).zip ds))
  | dT {kvs : List (List Key × V)} {ds : List D} : H a = some (.dT kvs) → RepAll K H S (kvs.map (·.2)) ds → Obj1 K H S a (.dict ((.none, .none) :: (kvs.map fun p => tD p.1).zip ds))
/-- .. that may be read -/
inductive ObjR (K : PySem.W.Frag) (H : Hp) (S : Addr → Prop) (a : Addr) : D → Prop
  | lst {xs : List V} {ds : List D} : Rd H a (.lst xs) → xs.length ≤ sizeLine → RepAll K H S xs ds → ObjR K H S a (.list ds)
  | dK {kvs : List (Key × V)} {ds : List D} : H a = some (.dK kvs) → RepAll K H S (kvs.map (·.2)) ds → ObjR K H S a (.dict ((kvs.map fun p => kD p.1).zip ds))
  | dT {kvs : List (List Key × V)} {ds : List D} : H a = some (.dT kvs) → RepAll K H S (kvs.map (·.2)) ds → ObjR K H S a (.dict ((.none, .none) :: (kvs.map fun p => tD p.1).zip ds))
section
variable {K : PySem.W.Frag} {H H' : Hp} {S S' : Addr → Prop} {a : Addr} {d : D}
theorem Obj1.r (h : Obj1 K H S a d) : ObjR K H S a d := by
  cases h with
  | lst e z al => exact .lst (.inl e) z al
  | dK e al => exact .dK e al
  | dT e al => exact .dT e al
theorem Obj1.tracked (h : Obj1 K H S a d) : H a ≠ none := by cases h <;> simp_all
theorem ObjR.tracked (h : ObjR K H S a d) : H a ≠ none := by
  cases h with
  | lst e z al => exact rd_tracked e
  | dK e al => simp [e]
  | dT e al => simp [e]
theorem Obj1.keep (h : Obj1 K H S a d) (e : ∀ o, H a = some o → H' a = some o) (k : ∀ a o, ¬ S a → H a = some o → H' a = some o) (hs : ∀ a, S' a → S a ∨ H a = none) : Obj1 K H' S' a d := by
  cases h with
  | lst q z al => exact .lst (e _ q) z (al.keep k hs)
  | dK q al => exact .dK (e _ q) (al.keep k hs)
  | dT q al => exact .dT (e _ q) (al.keep k hs)
theorem ObjR.keep (h : ObjR K H S a d) (e : ∀ o, H a = some o → H' a = some o) (k : ∀ a o, ¬ S a → H a = some o → H' a = some o) (hs : ∀ a, S' a → S a ∨ H a = none) : ObjR K H' S' a d := by
  cases h with
  | lst q z al => exact .lst (rd_keep e q) z (al.keep k hs)
  | dK q al => exact .dK (e _ q) (al.keep k hs)
  | dT q al => exact .dT (e _ q) (al.keep k hs)

/-- a thing that stands apart from S is told -/
theorem Obj1.rep (h : Obj1 K H S a d) (n : ¬ S a) : Rep K H S (.ref a) d := by
  cases h with
  | lst q z al => exact .lst n q z al
  | dK q al => exact .dK n q al
  | dT q al => exact .dT n q al
end
theorem ObjR.noXt {K : PySem.W.Frag} {H : Hp} {S : Addr → Prop} {a : Addr} {ds : List D} (r : ObjR K H S a (xtD ds)) : False := by
  unfold xtD at r
  generalize hd : PyData.dict [(.none, .tuple ds)] = d at r
  cases r with
  | lst => cases hd
  | @dK kvs ds' r al =>
    have := (PyData.dict.inj hd).symm
    cases kvs with
    | nil => simp at this
    | cons p kvs => cases ds' with
      | nil => simp at this
      | cons x ds' =>
        simp at this
        obtain ⟨⟨h1, _⟩, _⟩ := this
        cases hp : p.1 <;> rw [hp] at h1 <;> cases h1
  | dT r al => cases hd
theorem ObjR.noKt {K : PySem.W.Frag} {H : Hp} {S : Addr → Prop} {a : Addr} {ds : List D} (r : ObjR K H S a (ktD ds)) : False := by
  unfold ktD at r
  generalize hd : PyData.dict [(.bool true, .tuple ds)] = d at r
  cases r with
  | lst => cases hd
  | @dK kvs ds' r al =>
    have := (PyData.dict.inj hd).symm
    cases kvs with
    | nil => simp at this
    | cons p kvs => cases ds' with
      | nil => simp at this
      | cons x ds' =>
        simp at this
        obtain ⟨⟨h1, _⟩, _⟩ := this
        cases hp : p.1 <;> rw [hp] at h1 <;> cases h1
  | dT r al => cases hd
/-- what may be read just now: told, or a list or dict that someone may write -/
def RdB (K : PySem.W.Frag) (H : Hp) (S : Addr → Prop) (v : V) (d : D) : Prop := Rep K H S v d ∨ ∃ a, v = .ref a ∧ ObjR K H S a d

def Pool (H : Hp) (a : Addr) : Prop := ∃ x y z : Int, H a = some (.lst [.int x, .int y, .int z])

/-- an answer of a kind; H0: the heap ahead of it -/
def Res (K : PySem.W.Frag) (g : Rg) (k : RK) (H0 H : Hp) (v : V) (d : D) : Prop := match k with
  | .fz => Rep K H g.own v d
  | .rd => Rep K H g.own v d ∨ ∃ a, v = .ref a ∧ ¬ g.P a ∧ g.I a ∧ ObjR K H g.own a d
  | .nw => ∃ p, v = .ref p ∧ H0 p = none ∧ g.O p ∧ ¬ g.P p ∧ Obj1 K H g.own p d
  | .ow i => ∃ a, v = .ref a ∧ g.al i = some a ∧ Obj1 K H g.own a d
  | .pl => ∃ a, v = .ref a ∧ g.P a ∧ d = .none
  | .np => ∃ p, v = .ref p ∧ H0 p = none ∧ g.O p ∧ ¬ g.P p ∧ Pool H p ∧ d = .none
/-- an own dict with tuple keys that is walked: locked -/
inductive ObjL (K : PySem.W.Frag) (H : Hp) (S : Addr → Prop) (a : Addr) : D → Prop
  | mk {o : Obj} {kvs : List (List Key × V)} {ds : List D} : H a = some (.frz o (.dT kvs)) → RepAll K H S (kvs.map (·.2)) ds → ObjL K H S a (.dict ((.none, .none) :: (kvs.map fun p => tD p.1).zip ds))
theorem ObjL.keep {K : PySem.W.Frag} {H H' : Hp} {S S' : Addr → Prop} {a : Addr} {d : D} (h : ObjL K H S a d) (e : ∀ o, H a = some o → H' a = some o) (k : ∀ a o, ¬ S a → H a = some o → H' a = some o) (hs : ∀ a, S' a → S a ∨ H a = none) : ObjL K H' S' a d := by
  cases h with
  | mk r al => exact .mk (e _ r) (al.keep k hs)
def SlotK (K : PySem.W.Frag) (g : Rg) (H : Hp) (k : SK) (i : Nat) (v : V) (d : D) : Prop := match k with
  | .v => Rep K H g.own v d
  | .r => Rep K H g.own v d ∨ ∃ a, v = .ref a ∧ ¬ g.P a ∧ g.I a ∧ ObjR K H g.own a d
  | .o => ∃ a, v = .ref a ∧ g.al i = some a ∧ Obj1 K H g.own a d
  | .q => ∃ a, v = .ref a ∧ g.al i = some a ∧ Obj1 K H g.own a d
  | .l => ∃ a, v = .ref a ∧ g.al i = some a ∧ ObjL K H g.own a d
  | .p => ∃ a, v = .ref a ∧ g.P a ∧ d = .none
  | .f => (∃ a, v = .ref a ∧ g.al i = some a ∧ Obj1 K H g.own a d) ∨ ∃ d', d = .tuple [d'] ∧ Rep K H g.own v d'
  | .x a => v = .ref a
def kindOf (κ : List SK) (i : Nat) : SK := (κ[i]?).getD .v

/-- something stands there, no tuple -/
def Tk (H : Hp) (a : Addr) : Prop := H a ≠ none ∧ ∀ xs, H a ≠ some (.tup xs)
theorem Obj1.tk {K : PySem.W.Frag} {H : Hp} {S : Addr → Prop} {a : Addr} {d : D} (h : Obj1 K H S a d) : Tk H a := by cases h <;> simp_all [Tk]
theorem Pool.tk {H : Hp} {a : Addr} (h : Pool H a) : Tk H a := by obtain ⟨x, y, z, e⟩ := h; simp [Tk, e]
theorem Tk.of {H H' : Hp} {a : Addr} (h : Tk H a) (k : ∀ o, H a = some o → H' a = some o) : Tk H' a := by
  cases e : H a with
  | none => exact absurd e h.1
  | some o => exact ⟨by rw [k o e]; simp, fun xs z => h.2 xs (by rw [e]; rw [k o e] at z; exact z)⟩
structure Frm (K : PySem.W.Frag) (κ : List SK) (g : Rg) (env : En) (σ : St) (H : Hp) : Prop where
  ln : env.length = κ.length
  sl : σ.length = κ.length
  ev : ∀ i d, env[i]? = some (some d) → ∃ v, σ[i]? = some (some v) ∧ SlotK K g H (kindOf κ i) i v d
  inj : ∀ i j a, g.al i = some a → g.al j = some a → i = j
  alo' : ∀ i a, g.al i = some a → ¬ g.O a ∧ Tk H a
  ot' : ∀ a, g.O a → Tk H a
  il : ∀ a, g.I a → g.O a
  pl : ∀ a, g.P a → g.O a ∧ Pool H a

/-- an expression's step: M, the slots whose own things may have changed -/
structure EStep (M : List Nat) (g g' : Rg) (H H' : Hp) : Prop where
  al : g'.al = g.al
  P : g'.P = g.P
  I : g'.I = g.I
  up : ∀ a, g.O a → g'.O a
  dn : ∀ a, g'.O a → g.O a ∨ H a = none
  keep : ∀ b o, H b = some o → ¬ g.P b → (∀ i ∈ M, g.al i ≠ some b) → H' b = some o
  pool : ∀ b, g.P b → Pool H b → Pool H' b

/-- an expression of this reading -/
def cE (K : PySem.W.Frag) (κ : List SK) (M : List Nat) (k : RK) (w : WE) : TE := fun σ H Q => ∃ g env W, Frm K κ g env σ H ∧ w env W ∧
  ∀ v H' g' env' d, Frm K κ g' env' σ H' → EStep M g g' H H' → Res K g' k H H' v d → W d env' → Q v H'
def SE (X : Cx) (κ : List SK) (M : List Nat) (k : RK) (e : Expr) (w : WE) : Prop := PE X e (cE X.K κ M k w)
def cT (K : PySem.W.Frag) (κ : List SK) (M : List Nat) (w : WT) : TT := fun σ H Q => ∃ g env W, Frm K κ g env σ H ∧ w env W ∧
  ∀ b H' g' env', Frm K κ g' env' σ H' → EStep M g g' H H' → W b env' → Q b H'
def ST (X : Cx) (κ : List SK) (M : List Nat) (e : Expr) (w : WT) : Prop := PT X e (cT X.K κ M w)

section
variable {K : PySem.W.Frag} {κ : List SK} {g g' g2 : Rg} {env env' : En} {σ : St} {H H' H2 : Hp} {M M' : List Nat} {v : V} {d : D}
theorem EStep.refl : EStep M g g H H := ⟨rfl, rfl, rfl, fun _ h => h, fun _ h => .inl h, fun _ _ h _ _ => h, fun _ _ h => h⟩
theorem EStep.same (s : ∀ b o, H b = some o → H' b = some o) : EStep M g g H H' := ⟨rfl, rfl, rfl, fun _ h => h, fun _ h => .inl h, fun b o h _ _ => s b o h, fun _ _ ⟨x, y, z, e⟩ => ⟨x, y, z, s _ _ e⟩⟩
theorem EStep.mono (h : EStep M g g' H H') (s : ∀ i ∈ M, i ∈ M') : EStep M' g g' H H' := ⟨h.al, h.P, h.I, h.up, h.dn, fun b o e p q => h.keep b o e p fun i hi => q i (s i hi), h.pool⟩
theorem Frm.alo (f : Frm K κ g env σ H) (i : Nat) (a : Addr) (e : g.al i = some a) : ¬ g.O a ∧ H a ≠ none := ⟨(f.alo' i a e).1, (f.alo' i a e).2.1⟩
theorem Frm.ot (f : Frm K κ g env σ H) (a : Addr) (q : g.O a) : H a ≠ none := (f.ot' a q).1
theorem Frm.own_tk (f : Frm K κ g env σ H) {a : Addr} (h : g.own a) : Tk H a := h.elim (f.ot' a) fun ⟨i, e⟩ => (f.alo' i a e).2
/-- a tuple is nobody's own -/
theorem Frm.own_nt (f : Frm K κ g env σ H) {a : Addr} {xs : List V} (e : H a = some (.tup xs)) : ¬ g.own a := fun q => (f.own_tk q).2 xs e
theorem Frm.own_ne (f : Frm K κ g env σ H) {a : Addr} (h : g.own a) : H a ≠ none := by
  rcases h with h | ⟨i, h⟩
  · exact f.ot a h
  · exact (f.alo i a h).2
theorem Frm.p_own (f : Frm K κ g env σ H) {a : Addr} (h : g.P a) : g.own a := .inl (f.pl a h).1
/-- what is tracked stays tracked -/
theorem EStep.there {σ' : St} (h : EStep M g g' H H') (f : Frm K κ g env σ H) (f' : Frm K κ g' env' σ' H') {a : Addr} (e : H' a = none) : H a = none := by
  cases q : H a with
  | none => rfl
  | some o =>
    by_cases hp : g.P a
    · have := h.pool a hp (f.pl a hp).2
      obtain ⟨x, y, z, r⟩ := this
      rw [r] at e; cases e
    · by_cases hm : ∀ i ∈ M, g.al i ≠ some a
      · rw [h.keep a o q hp hm] at e; cases e
      · have : ∃ i, i ∈ M ∧ g.al i = some a := by
          apply Classical.byContradiction
          intro c
          exact hm fun i hi z => c ⟨i, hi, z⟩
        obtain ⟨i, hi, z⟩ := this
        exact absurd e (f'.alo i a (by rw [h.al]; exact z)).2
theorem EStep.trans {σ' : St} (h : EStep M g g' H H') (h2 : EStep M' g' g2 H' H2) (f : Frm K κ g env σ H) (f' : Frm K κ g' env' σ' H') : EStep (M ++ M') g g2 H H2 := by
  refine ⟨h2.al.trans h.al, h2.P.trans h.P, h2.I.trans h.I, fun a q => h2.up a (h.up a q), fun a q => ?_, fun b o e p q => ?_, fun b p q => h2.pool b (by rw [h.P]; exact p) (h.pool b p q)⟩
  · rcases h2.dn a q with z | z
    · exact h.dn a z
    · exact .inr (h.there f f' z)
  · exact h2.keep b o (h.keep b o e p fun i hi => q i (List.mem_append_left _ hi)) (by rw [h.P]; exact p) fun i hi => by rw [h.al]; exact q i (List.mem_append_right _ hi)
/-- off the owned things all is kept -/
theorem EStep.off (h : EStep M g g' H H') (f : Frm K κ g env σ H) : ∀ a o, ¬ g.own a → H a = some o → H' a = some o := fun a o n e =>
  h.keep a o e (fun p => n (f.p_own p)) fun i _ z => n (.inr ⟨i, z⟩)
theorem EStep.own (h : EStep M g g' H H') : ∀ a, g'.own a → g.own a ∨ H a = none := fun a q => by
  rcases q with q | ⟨i, q⟩
  · exact (h.dn a q).imp .inl id
  · rw [h.al] at q; exact .inl (.inr ⟨i, q⟩)
def stable (k : RK) (M : List Nat) : Bool := match k with
  | .ow i => !M.contains i
  | _ => true
/-- an answer stays told through a further step -/
theorem Res.step {k : RK} {H0 : Hp} (r : Res K g k H0 H v d) (h : EStep M g g' H H') (f : Frm K κ g env σ H) (hs : stable k M = true) : Res K g' k H0 H' v d := by
  have ko := h.off f
  have ho := h.own
  cases k with
  | fz => exact Rep.keep ko ho r
  | rd =>
    rcases r with r | ⟨a, rfl, np, na, r⟩
    · exact .inl (Rep.keep ko ho r)
    · refine .inr ⟨a, rfl, by rw [h.P]; exact np, by rw [h.I]; exact na, r.keep (fun o e => h.keep a o e np fun i _ z => (f.alo i a z).1 (f.il a na)) ko ho⟩
  | nw =>
    obtain ⟨p, rfl, n, hO, hP, r⟩ := r
    refine ⟨p, rfl, n, h.up p hO, by rw [h.P]; exact hP, r.keep (fun o e => h.keep p o e hP fun i _ z => (f.alo i p z).1 hO) ko ho⟩
  | ow i =>
    obtain ⟨a, rfl, e, r⟩ := r
    refine ⟨a, rfl, by rw [h.al]; exact e, r.keep (fun o q => h.keep a o q (fun p => (f.alo i a e).1 (f.pl a p).1) fun j hj z => ?_) ko ho⟩
    have : j = i := f.inj j i a z e
    subst this
    simp [stable] at hs
    exact hs hj
  | pl =>
    obtain ⟨a, rfl, p, e⟩ := r
    exact ⟨a, rfl, by rw [h.P]; exact p, e⟩
  | np =>
    obtain ⟨p, rfl, n, hO, hP, ⟨x, y, z, r⟩, e⟩ := r
    exact ⟨p, rfl, n, h.up p hO, by rw [h.P]; exact hP, ⟨x, y, z, h.keep p _ r hP fun i _ z => (f.alo i p z).1 hO⟩, e⟩
/-- whatever the kind (but a pool), it may be read now -/
theorem Res.rdb {k : RK} {H0 : Hp} (r : Res K g k H0 H v d) (hk : k.rdable = true) : RdB K H g.own v d := by
  cases k with
  | fz => exact .inl r
  | rd => exact r.imp id fun ⟨a, e, _, _, q⟩ => ⟨a, e, q⟩
  | nw => obtain ⟨p, e, _, _, _, q⟩ := r; exact .inr ⟨p, e, q.r⟩
  | ow i => obtain ⟨p, e, _, q⟩ := r; exact .inr ⟨p, e, q.r⟩
  | pl => simp [RK.rdable] at hk
  | np => simp [RK.rdable] at hk
end
end G7

set_option maxRecDepth 100000
namespace G7
open PySem PySem.Spec PyProof.Rows L2

section
variable {K : PySem.W.Frag} {κ : List SK} {g g' g2 : Rg} {env env' : En} {σ : St} {H H' H2 : Hp} {M M' : List Nat} {v : V} {d : D}
theorem EStep.tr {σ' : St} (h : EStep M g g' H H') (h2 : EStep M g' g2 H' H2) (f : Frm K κ g env σ H) (f' : Frm K κ g' env' σ' H') : EStep M g g2 H H2 :=
  (h.trans h2 f f').mono fun i hi => (List.mem_append.mp hi).elim id id
theorem Res.back {k : RK} {H0 H1 : Hp} (r : Res K g k H1 H v d) (t : ∀ p, H1 p = none → H0 p = none) : Res K g k H0 H v d := by
  cases k with
  | fz => exact r
  | rd => exact r
  | nw => obtain ⟨p, e, n, q⟩ := r; exact ⟨p, e, t p n, q⟩
  | ow i => exact r
  | pl => exact r
  | np => obtain ⟨p, e, n, q⟩ := r; exact ⟨p, e, t p n, q⟩
theorem RdB.keep (r : RdB K H g.own v d) (k : ∀ b o, H b = some o → H' b = some o) (hs : ∀ a, g'.own a → g.own a ∨ H a = none) : RdB K H' g'.own v d := by
  rcases r with r | ⟨a, e, r⟩
  · exact .inl (Rep.keep (fun a o _ q => k a o q) hs r)
  · exact .inr ⟨a, e, r.keep (fun o q => k a o q) (fun a o _ q => k a o q) hs⟩
/-- a step that keeps all but the pools -/
theorem Frm.next (f : Frm K κ g env σ H) (k : ∀ b o, H b = some o → ¬ g.P b → H' b = some o) (kp : ∀ b, g.P b → Pool H' b) (al : g'.al = g.al) (P : g'.P = g.P) (hI : g'.I = g.I) (up : ∀ a, g.P a → g'.O a) (ui : ∀ a, g.I a → g'.O a)
    (dn : ∀ a, g'.O a → g.O a ∨ (H a = none ∧ Tk H' a)) : Frm K κ g' env σ H' := by
  have nP : ∀ i a, g.al i = some a → ¬ g.P a := fun i a e p => (f.alo i a e).1 (f.pl a p).1
  have own : ∀ a, g'.own a → g.own a ∨ H a = none := fun a q => by
    rcases q with q | ⟨i, q⟩
    · exact (dn a q).imp .inl (·.1)
    · rw [al] at q; exact .inl (.inr ⟨i, q⟩)
  have off : ∀ a o, ¬ g.own a → H a = some o → H' a = some o := fun a o n e => k a o e fun p => n (f.p_own p)
  have there : ∀ a, Tk H a → Tk H' a := fun a h => by
    by_cases p : g.P a
    · exact (kp a p).tk
    · exact h.of fun o e => k a o e p
  refine ⟨f.ln, f.sl, fun i d e => ?_, by rw [al]; exact f.inj, fun i a e => ?_, fun a q => ?_, fun a q => by rw [hI] at q; exact ui a q, fun a p => ?_⟩
  · obtain ⟨v, e1, s⟩ := f.ev i d e
    refine ⟨v, e1, ?_⟩
    cases hk : kindOf κ i <;> rw [hk] at s <;> unfold SlotK at s ⊢ <;> simp only at s ⊢
    · exact s
    · exact Rep.keep off own s
    · rcases s with s | ⟨a, rfl, np, na, s⟩
      · exact .inl (Rep.keep off own s)
      · exact .inr ⟨a, rfl, by rw [P]; exact np, by rw [hI]; exact na, s.keep (fun o q => k a o q np) off own⟩
    · obtain ⟨a, rfl, ea, s⟩ := s
      exact ⟨a, rfl, by rw [al]; exact ea, s.keep (fun o q => k a o q (nP i a ea)) off own⟩
    · obtain ⟨a, rfl, ea, s⟩ := s
      exact ⟨a, rfl, by rw [al]; exact ea, s.keep (fun o q => k a o q (nP i a ea)) off own⟩
    · obtain ⟨a, rfl, ea, s⟩ := s
      exact ⟨a, rfl, by rw [al]; exact ea, s.keep (fun o q => k a o q (nP i a ea)) off own⟩
    · obtain ⟨a, rfl, p, s⟩ := s
      exact ⟨a, rfl, by rw [P]; exact p, s⟩
    · rcases s with ⟨a, rfl, ea, s⟩ | ⟨d', e', s⟩
      · exact .inl ⟨a, rfl, by rw [al]; exact ea, s.keep (fun o q => k a o q (nP i a ea)) off own⟩
      · exact .inr ⟨d', e', Rep.keep off own s⟩
  · rw [al] at e
    refine ⟨fun q => ?_, there a (f.alo' i a e).2⟩
    rcases dn a q with z | ⟨z, _⟩
    · exact (f.alo i a e).1 z
    · exact (f.alo i a e).2 z
  · rcases dn a q with z | ⟨_, z⟩
    · exact there a (f.ot' a z)
    · exact z
  · rw [P] at p
    exact ⟨up a p, kp a p⟩
theorem Frm.same (f : Frm K κ g env σ H) (k : ∀ b o, H b = some o → H' b = some o) : Frm K κ g env σ H' :=
  f.next (fun b o e _ => k b o e) (fun b p => by obtain ⟨x, y, z, e⟩ := (f.pl b p).2; exact ⟨x, y, z, k _ _ e⟩) rfl rfl rfl (fun a p => (f.pl a p).1) f.il fun a q => .inl q
def Rg.add (g : Rg) (p : Addr) : Rg := { g with O := fun a => g.O a ∨ a = p }
theorem Rg.add_own {p a : Addr} : (g.add p).own a ↔ g.own a ∨ a = p := by
  unfold Rg.own Rg.add
  constructor
  · rintro ((h | h) | h)
    · exact .inl (.inl h)
    · exact .inr h
    · exact .inl (.inr h)
  · rintro ((h | h) | h)
    · exact .inl (.inl h)
    · exact .inr h
    · exact .inl (.inr h)
theorem same_new {p : Addr} {o : HO} (h : H p = none) : ∀ b x, H b = some x → (upd H p o) b = some x := fun b x e => by rw [upd_ne (ne_of_none e h)]; exact e
/-- a new thing at p, owned by the expression -/
theorem Frm.new (f : Frm K κ g env σ H) {p : Addr} {o : HO} (h : H p = none) (ht : ∀ xs, o ≠ .tup xs := by intro _ h; cases h) : Frm K κ (g.add p) env σ (upd H p o) :=
  f.next (fun b x e _ => same_new h b x e) (fun b q => by obtain ⟨x, y, z, e⟩ := (f.pl b q).2; exact ⟨x, y, z, same_new h _ _ e⟩) rfl rfl rfl (fun a q => .inl (f.pl a q).1) (fun a q => .inl (f.il a q))
    fun a q => q.imp id fun e => by subst e; exact ⟨h, by rw [upd_same]; simp, fun xs z => by rw [upd_same] at z; exact ht xs (Option.some.inj z)⟩
theorem EStep.new {p : Addr} {o : HO} (h : H p = none) : EStep M g (g.add p) H (upd H p o) :=
  ⟨rfl, rfl, rfl, fun _ q => .inl q, fun a q => q.imp id fun e => by subst e; exact h, fun b x e _ _ => same_new h b x e, fun b _ q => by obtain ⟨x, y, z, e⟩ := q; exact ⟨x, y, z, same_new h _ _ e⟩⟩
theorem EStep.new0 {p : Addr} {o : HO} (h : H p = none) : EStep M g g H (upd H p o) := EStep.same (same_new h)
theorem Frm.new0 (f : Frm K κ g env σ H) {p : Addr} {o : HO} (h : H p = none) : Frm K κ g env σ (upd H p o) := f.same (same_new h)
/-- less is owned -/
theorem Frm.less (f : Frm K κ g env σ H) (al : g'.al = g.al) (P : g'.P = g.P) (hI : g'.I = g.I) (ui : ∀ a, g.I a → g'.O a) (up : ∀ a, g.P a → g'.O a) (dn : ∀ a, g'.O a → g.O a) : Frm K κ g' env σ H :=
  f.next (fun b o e _ => e) (fun b p => (f.pl b p).2) al P hI up ui fun a q => .inl (dn a q)
end

section
variable {X : Cx} {κ : List SK} {M : List Nat} {e a b : Expr} {w wa wb : WE} {k ka kb : RK} {pos : Pos}
theorem SE.of {t : TE} (h : PE X e t) (s : ∀ σ H Q, cE X.K κ M k w σ H Q → t σ H Q) : SE X κ M k e w := ⟨fun pins s0 σ H Q I q => h.run pins s0 σ H Q I (s σ H Q q)⟩
theorem ST.of {c : Expr} {wt : WT} {t : TT} (h : PT X c t) (s : ∀ σ H Q, cT X.K κ M wt σ H Q → t σ H Q) : ST X κ M c wt := ⟨fun pins s0 σ H Q I q => h.run pins s0 σ H Q I (s σ H Q q)⟩
/-- a smaller reading -/
theorem SE.imp {w' : WE} (h : SE X κ M k e w) (i : ∀ en Q, w' en Q → w en Q) : SE X κ M k e w' := SE.of h fun σ H Q ⟨g, env, W, F, hw, post⟩ => ⟨g, env, W, F, i _ _ hw, post⟩
/-- a new thing is given away -/
theorem SE.nf (h : SE X κ M .nw e w) : SE X κ M .fz e w := SE.of h fun σ H Q ⟨g, env, W, F, hw, post⟩ => ⟨g, env, W, F, hw, fun v H' g' env' d F' s ⟨p, e1, n, hO, hP, r⟩ wd => by
  subst e1
  have F2 : Frm X.K κ { g' with O := g.O } env' σ H' := F'.less rfl rfl rfl (fun a q => F.il a (by rw [← s.I]; exact q)) (fun a q => (F.pl a (by rw [← s.P]; exact q)).1) s.up
  refine post _ H' { g' with O := g.O } env' d F2 ⟨s.al, s.P, s.I, fun _ q => q, fun _ q => .inl q, s.keep, s.pool⟩ ?_ wd
  have sub : ∀ a, Rg.own { g' with O := g.O } a → g'.own a := fun a q => q.imp (s.up a) id
  have np : ¬ Rg.own { g' with O := g.O } p := fun q => by
    rcases q with q | ⟨i, q⟩
    · exact F.ot p q n
    · exact (F'.alo i p q).1 hO
  exact (r.keep (S' := Rg.own { g' with O := g.O }) (H' := H') (fun _ q => q) (fun _ _ _ q => q) fun a q => .inl (sub a q)).rep np⟩
/-- whatever it is, it is handed on to be read -/
theorem SE.fr (h : SE X κ M .fz e w) : SE X κ M .rd e w := SE.of h fun σ H Q ⟨g, env, W, F, hw, post⟩ => ⟨g, env, W, F, hw, fun v H' g' env' d F' s r wd => post v H' g' env' d F' s (.inl r) wd⟩

theorem se_v {i : Nat} {x : Str} (h : PE X (.Name x pos) (tVar i)) (hk : kindOf κ i = .v) : SE X κ M .fz (.Name x pos) (wVar i) := SE.of h fun σ H Q ⟨g, env, W, F, ⟨d, e1, hw⟩, post⟩ => by
  obtain ⟨v, e2, s⟩ := F.ev i d e1
  rw [hk] at s
  exact ⟨v, e2, post v H g env d F .refl s hw⟩
theorem se_r {i : Nat} {x : Str} (h : PE X (.Name x pos) (tVar i)) (hk : kindOf κ i = .r) : SE X κ M .rd (.Name x pos) (wVar i) := SE.of h fun σ H Q ⟨g, env, W, F, ⟨d, e1, hw⟩, post⟩ => by
  obtain ⟨v, e2, s⟩ := F.ev i d e1
  rw [hk] at s
  exact ⟨v, e2, post v H g env d F .refl s hw⟩
theorem se_o {i : Nat} {x : Str} (h : PE X (.Name x pos) (tVar i)) (hk : kindOf κ i = .o) : SE X κ M (.ow i) (.Name x pos) (wVar i) := SE.of h fun σ H Q ⟨g, env, W, F, ⟨d, e1, hw⟩, post⟩ => by
  obtain ⟨v, e2, s⟩ := F.ev i d e1
  rw [hk] at s
  exact ⟨v, e2, post v H g env d F .refl s hw⟩
theorem se_p {i : Nat} {x : Str} (h : PE X (.Name x pos) (tVar i)) (hk : kindOf κ i = .p) : SE X κ M .pl (.Name x pos) (wVar i) := SE.of h fun σ H Q ⟨g, env, W, F, ⟨d, e1, hw⟩, post⟩ => by
  obtain ⟨v, e2, s⟩ := F.ev i d e1
  rw [hk] at s
  exact ⟨v, e2, post v H g env d F .refl s hw⟩
theorem se_c {v : V} {d : D} (h : PE X e (tC v)) (r : ∀ H S, Rep X.K H S v d) : SE X κ M .fz e (wC d) := SE.of h fun σ H Q ⟨g, env, W, F, hw, post⟩ => post v H g env d F .refl (r _ _) hw
theorem se_int {i j} : SE X κ M .fz (.Constant (.int i) j pos) (wC (.int i)) := se_c pe_int fun _ _ => .int i
theorem se_bl {i j} : SE X κ M .fz (.Constant (.bool i) j pos) (wC (.bool i)) := se_c pe_bl fun _ _ => .bl i
theorem se_str {i j} : SE X κ M .fz (.Constant (.str i) j pos) (wC (.str i)) := se_c pe_str fun _ _ => .str i
theorem se_gint {x : Str} {i : Int} {t : Tok} (hg : Gl X x) (hm : X.mg x = some (.int i t)) (hd : (x == ("__debug__" : Str)) = false := by decide) : SE X κ M .fz (.Name x pos) (wC (.int i)) := se_c (pe_glob (v := .int i) hg hm ⟨t, rfl⟩ hd) fun _ _ => .int i

/-- what an operator by values gives over data -/
def OpD (K : PySem.W.Frag) (r : R2) (f : D → D → Option D) (k : RK) : Prop := ∀ (κ : List SK) (g : Rg) (env : En) (σ : St) (H : Hp) (x y : V) (dx dy dz : D) (Q : VK), Frm K κ g env σ H → RdB K H g.own x dx → RdB K H g.own y dy → f dx dy = some dz →
  (∀ v H' g', Frm K κ g' env σ H' → EStep [] g g' H H' → Res K g' k H H' v dz → Q v H') → r x y H Q
def Op1 (K : PySem.W.Frag) (r : V → Hp → VK → Prop) (f : D → Option D) (k : RK) : Prop := ∀ (κ : List SK) (g : Rg) (env : En) (σ : St) (H : Hp) (x : V) (dx dz : D) (Q : VK), Frm K κ g env σ H → RdB K H g.own x dx → f dx = some dz →
  (∀ v H' g', Frm K κ g' env σ H' → EStep [] g g' H H' → Res K g' k H H' v dz → Q v H') → r x H Q
theorem se_tOp {r : R2} {f : D → D → Option D} {E : Expr} (h : PE X E (tOp r (cE X.K κ M ka wa) (cE X.K κ M kb wb))) (hf : OpD X.K r f k) (hs : stable ka M = true) (pa : ka.rdable = true) (pb : kb.rdable = true) : SE X κ M k E (wOp2 f wa wb) :=
  SE.of h fun σ H Q ⟨g, env, W, F, hw, post⟩ => ⟨g, env, _, F, hw, fun x H1 g1 e1 d1 F1 s1 r1 w1 => ⟨g1, e1, _, F1, w1, fun y H2 g2 e2 d2 F2 s2 r2 w2 => by
    obtain ⟨z, ez, wz⟩ := w2
    refine hf κ g2 e2 σ H2 x y d1 d2 z Q F2 ((r1.step s2 F1 hs).rdb pa) (r2.rdb pb) ez fun v H3 g3 F3 s3 r3 => ?_
    have s12 := s1.tr s2 F F1
    exact post v H3 g3 e2 z F3 (s12.tr (s3.mono fun _ q => nomatch q) F F2) (r3.back fun p q => s12.there F F2 q) wz⟩⟩
theorem se_bin {op : Operator} {r : R2} {f : D → D → Option D} (ho : OpR X (binaryOp op) r) (hf : OpD X.K r f k) (ha : SE X κ M ka a wa) (hb : SE X κ M kb b wb) (hs : stable ka M = true := by rfl) (pa : ka.rdable = true := by rfl) (pb : kb.rdable = true := by rfl) :
    SE X κ M k (.BinOp a op b pos) (wOp2 f wa wb) := se_tOp (pe_op ho ha hb) hf hs pa pb
theorem se_cmp {op : CmpOp} {r : R2} {f : D → D → Option D} (ho : OpR X (compareOp op) r) (hf : OpD X.K r f k) (ha : SE X κ M ka a wa) (hb : SE X κ M kb b wb) (hm : behindInMarks op b = false) (hs : stable ka M = true := by rfl) (pa : ka.rdable = true := by rfl) (pb : kb.rdable = true := by rfl) :
    SE X κ M k (.Compare a [op] [b] pos) (wOp2 f wa wb) := se_tOp (pe_cmpR ho ha hb hm) hf hs pa pb
theorem se_ix {r : R2} {f : D → D → Option D} (ho : IxR X r) (hf : OpD X.K r f k) (ha : SE X κ M ka a wa) (hb : SE X κ M kb b wb) (hx : PlainIx b) (hs : stable ka M = true := by rfl) (pa : ka.rdable = true := by rfl) (pb : kb.rdable = true := by rfl) :
    SE X κ M k (.Subscript a b pos) (wOp2 f wa wb) := se_tOp (pe_ix ho ha hb hx) hf hs pa pb
theorem se_un {op : UnaryOp} {r : V → Hp → VK → Prop} {f : D → Option D} (ho : UnR X (unaryOp op) r) (hf : Op1 X.K r f k) (ha : SE X κ M ka a wa) (pa : ka.rdable = true := by rfl) : SE X κ M k (.UnaryOp op a pos) (wOp1 f wa) :=
  SE.of (pe_un ho ha) fun σ H Q ⟨g, env, W, F, hw, post⟩ => ⟨g, env, _, F, hw, fun x H1 g1 e1 d1 F1 s1 r1 w1 => by
    obtain ⟨z, ez, wz⟩ := w1
    refine hf κ g1 e1 σ H1 x d1 z Q F1 (r1.rdb pa) ez fun v H3 g3 F3 s3 r3 => ?_
    exact post v H3 g3 e1 z F3 (s1.tr (s3.mono fun _ q => nomatch q) F F1) (r3.back fun p q => s1.there F F1 q) wz⟩

def ResA (K : PySem.W.Frag) (g : Rg) (H0 H : Hp) : List RK → List V → List D → Prop
  | [], [], [] => True
  | k :: ks, v :: vs, d :: ds => Res K g k H0 H v d ∧ ResA K g H0 H ks vs ds
  | _, _, _ => False
def cA (K : PySem.W.Frag) (κ : List SK) (M : List Nat) (ks : List RK) (w : WA) : TA := fun σ H Q => ∃ g env W, Frm K κ g env σ H ∧ w env W ∧
  ∀ vs H' g' env' ds, Frm K κ g' env' σ H' → EStep M g g' H H' → ResA K g' H H' ks vs ds → W ds env' → Q vs H'
def SA (X : Cx) (κ : List SK) (M : List Nat) (ks : List RK) (es : List Expr) (w : WA) : Prop := PA X es (cA X.K κ M ks w)
theorem SA.of {es : List Expr} {ks : List RK} {wl : WA} {t : TA} (h : PA X es t) (s : ∀ σ H Q, cA X.K κ M ks wl σ H Q → t σ H Q) : SA X κ M ks es wl := ⟨fun p pins s0 σ H Q I q => h.run p pins s0 σ H Q I (s σ H Q q)⟩
theorem ResA.back {K : PySem.W.Frag} {g : Rg} {H H0 H1 : Hp} (t : ∀ p, H1 p = none → H0 p = none) : ∀ {ks : List RK} {vs : List V} {ds : List D}, ResA K g H1 H ks vs ds → ResA K g H0 H ks vs ds
  | [], [], [], _ => trivial
  | _ :: _, _ :: _, _ :: _, h => ⟨h.1.back t, h.2.back t⟩
  | [], [], _ :: _, h => h.elim
  | [], _ :: _, _, h => h.elim
  | _ :: _, [], _, h => h.elim
  | _ :: _, _ :: _, [], h => h.elim
theorem sa_nil : SA X κ M [] [] waNil := SA.of pa_nil fun σ H Q ⟨g, env, W, F, hw, post⟩ => post [] H g env [] F .refl trivial hw
theorem sa_cons {es : List Expr} {ks : List RK} {wr : WA} (ha : SE X κ M ka a wa) (hr : SA X κ M ks es wr) (hs : stable ka M = true := by rfl) (he : starEach (a :: es) X.env = (false, eval a X.env) :: starEach es X.env := by rfl) : SA X κ M (ka :: ks) (a :: es) (waCons wa wr) :=
  SA.of (pa_cons ha hr he) fun σ H Q ⟨g, env, W, F, hw, post⟩ => ⟨g, env, _, F, hw, fun x H1 g1 e1 d1 F1 s1 r1 w1 => ⟨g1, e1, _, F1, w1, fun ys H2 g2 e2 ds F2 s2 r2 w2 =>
    post (x :: ys) H2 g2 e2 (d1 :: ds) F2 (s1.tr s2 F F1) ⟨(r1.step s2 F1 hs), r2.back fun p q => s1.there F F1 q⟩ w2⟩⟩
theorem ResA.len {K : PySem.W.Frag} {g : Rg} {H H0 : Hp} : ∀ {ks : List RK} {vs : List V} {ds : List D}, ResA K g H0 H ks vs ds → vs.length = ds.length
  | [], [], [], _ => rfl
  | _ :: _, _ :: _, _ :: _, h => by simp [ResA.len h.2]
  | [], [], _ :: _, h => h.elim
  | [], _ :: _, _, h => h.elim
  | _ :: _, [], _, h => h.elim
  | _ :: _, _ :: _, [], h => h.elim
/-- all of them told for good -/
theorem ResA.all {K : PySem.W.Frag} {g : Rg} {H H0 : Hp} : ∀ {ks : List RK} {vs : List V} {ds : List D}, ks.all (· == .fz) = true → ResA K g H0 H ks vs ds → RepAll K H g.own vs ds
  | [], [], [], _, _ => .nil
  | k :: _, _ :: _, _ :: _, hk, h => by
    simp only [List.all_cons, Bool.and_eq_true, beq_iff_eq] at hk
    obtain ⟨e, hk⟩ := hk
    subst e
    exact .cons h.1 (ResA.all hk h.2)
  | [], [], _ :: _, _, h => h.elim
  | [], _ :: _, _, _, h => h.elim
  | _ :: _, [], _, _, h => h.elim
  | _ :: _, _ :: _, [], _, h => h.elim
theorem lim_line {n : Nat} (h : n ≤ lim) : n ≤ sizeLine := Nat.le_trans h (by rw [sizeLine_eq]; decide)
/-- a display of a tuple, as it is laid -/
def tTupM (t : TA) : TE := fun σ H Q => t σ H fun xs H1 => xs.length ≤ sizeLine ∧ ∀ p o, H1 p = none → MkT o xs → Q (.ref p) (upd H1 p o)
theorem pe_tupM {es : List Expr} {t : TA} {x1} (h : PA X es t) : PE X (.Tuple es x1 pos) (tTupM t) := by
  refine ⟨fun pins s σ H Q I hq => ?_⟩
  refine wpAny_Tuple_spliced (thn (h.run pos pins s σ H _ I hq) fun us t1 ⟨xs, H1, I1, r, z, q⟩ => ⟨by rw [← r.length]; exact z, ?_⟩)
  obtain ⟨o, m, I2⟩ := mk_laid I1 r z rfl
  exact ⟨.ref t1.heap.objs.size, _, I2, rfl, q _ o (I1.hok.fresh (Nat.le_refl _)) m⟩
theorem se_tup {es : List Expr} {ks : List RK} {wl : WA} {x1} (h : SA X κ M ks es wl) (hk : ks.all (· == .fz) = true := by rfl) : SE X κ M .fz (.Tuple es x1 pos) (wTup wl) :=
  SE.of (pe_tupM h) fun σ H Q ⟨g, env, W, F, hw, post⟩ => ⟨g, env, _, F, hw, fun vs H1 g1 e1 ds F1 s1 r1 w1 => by
    obtain ⟨hl, w1⟩ := w1
    have z : vs.length ≤ sizeLine := by rw [r1.len]; exact lim_line hl
    refine ⟨z, fun p o np m => post _ _ g1 e1 _ (F1.new0 np) (s1.tr (.new0 np) F F1) ?_ w1⟩
    have own : ¬ g1.own p := fun q => F1.own_ne q np
    exact .tup own (m.rdT r1.len upd_same) z ((r1.all hk).keep (fun a o _ e => same_new np a o e) fun a q => .inl q)⟩
theorem se_lst {es : List Expr} {ks : List RK} {wl : WA} (h : SA X κ M ks es wl) (hk : ks.all (· == .fz) = true := by rfl) : SE X κ M .nw (.List es pos) (wList wl) :=
  SE.of (pe_lst h) fun σ H Q ⟨g, env, W, F, hw, post⟩ => ⟨g, env, _, F, hw, fun vs H1 g1 e1 ds F1 s1 r1 w1 => by
    obtain ⟨hl, w1⟩ := w1
    have z : vs.length ≤ sizeLine := by rw [r1.len]; exact lim_line hl
    refine ⟨z, fun p np => post _ _ (g1.add p) e1 _ (F1.new np) (s1.tr (.new np) F F1) ⟨p, rfl, s1.there F F1 np, .inr rfl, fun q => F1.own_ne (F1.p_own q) np, .lst upd_same z ?_⟩ w1⟩
    exact (r1.all hk).keep (fun a o _ e => same_new np a o e) fun a q => (Rg.add_own.mp q).imp id fun e => by rw [e]; exact np⟩
def RdA (K : PySem.W.Frag) (H : Hp) (S : Addr → Prop) : List V → List D → Prop
  | [], [] => True
  | v :: vs, d :: ds => RdB K H S v d ∧ RdA K H S vs ds
  | _, _ => False
theorem ResA.rda {K : PySem.W.Frag} {g : Rg} {H H0 : Hp} : ∀ {ks : List RK} {vs : List V} {ds : List D}, ks.all RK.rdable = true → ResA K g H0 H ks vs ds → RdA K H g.own vs ds
  | [], [], [], _, _ => trivial
  | k :: _, _ :: _, _ :: _, hk, h => by
    simp only [List.all_cons, Bool.and_eq_true] at hk
    exact ⟨h.1.rdb hk.1, ResA.rda hk.2 h.2⟩
  | [], [], _ :: _, _, h => h.elim
  | [], _ :: _, _, _, h => h.elim
  | _ :: _, [], _, _, h => h.elim
  | _ :: _, _ :: _, [], _, h => h.elim
def BlD (K : PySem.W.Frag) (r : List V → Hp → VK → Prop) (f : List D → Option D) (k : RK) : Prop := ∀ (κ : List SK) (g : Rg) (env : En) (σ : St) (H : Hp) (vs : List V) (ds : List D) (dz : D) (Q : VK), Frm K κ g env σ H → RdA K H g.own vs ds → f ds = some dz →
  (∀ v H' g', Frm K κ g' env σ H' → EStep [] g g' H H' → Res K g' k H H' v dz → Q v H') → r vs H Q
theorem se_tCB {r : List V → Hp → VK → Prop} {f : List D → Option D} {E : Expr} {ks : List RK} {wl : WA} (h : PE X E (tCB r (cA X.K κ M ks wl))) (hf : BlD X.K r f k) (hk : ks.all RK.rdable = true) : SE X κ M k E (wBlt f wl) :=
  SE.of h fun σ H Q ⟨g, env, W, F, hw, post⟩ => ⟨g, env, _, F, hw, fun vs H1 g1 e1 ds F1 s1 r1 w1 => by
    obtain ⟨z, ez, wz⟩ := w1
    refine hf κ g1 e1 σ H1 vs ds z Q F1 (r1.rda hk) ez fun v H3 g3 F3 s3 r3 => ?_
    exact post v H3 g3 e1 z F3 (s1.tr (s3.mono fun _ q => nomatch q) F F1) (r3.back fun p q => s1.there F F1 q) wz⟩
end
end G7

set_option maxRecDepth 100000
namespace G7
open PySem PySem.Spec PyProof.Rows L2

inductive PM where | fz | rd | pl
  deriving DecidableEq
def ArgOk (K : PySem.W.Frag) (H : Hp) (O P : Addr → Prop) (m : PM) (v : V) (d : D) : Prop := match m with
  | .fz => Rep K H O v d
  | .rd => Rep K H O v d ∨ ∃ a, v = .ref a ∧ ¬ P a ∧ O a ∧ ObjR K H O a d
  | .pl => ∃ a, v = .ref a ∧ P a ∧ d = .none
def ArgsOk (K : PySem.W.Frag) (H : Hp) (O P : Addr → Prop) : List PM → List V → List D → Prop
  | [], [], [] => True
  | m :: ms, v :: vs, d :: ds => ArgOk K H O P m v d ∧ ArgsOk K H O P ms vs ds
  | _, _, _ => False
def ResC (K : PySem.W.Frag) (k : RK) (H H' : Hp) (O : Addr → Prop) (v : V) (d : D) : Prop := match k with
  | .nw => ∃ p, v = .ref p ∧ H p = none ∧ Obj1 K H' (fun a => O a ∨ a = p) p d
  | _ => Rep K H' O v d
/-- the promise: S tells of the arguments' data what is wanted of the answer's -/
def spOf (K : PySem.W.Frag) (ms : List PM) (k : RK) (S : FS) : Sp := fun vs H Q _ => ∃ (O P : Addr → Prop) (ds : List D) (Post : D → Prop),
  (∀ a, O a → Tk H a) ∧ (∀ a, P a → O a ∧ Pool H a) ∧ ArgsOk K H O P ms vs ds ∧ S ds Post ∧
  ∀ v H' d, Post d → (∀ b o, H b = some o → ¬ P b → H' b = some o) → (∀ b, P b → Pool H' b) → ResC K k H H' O v d → Q v H'
theorem ArgsOk.len {K : PySem.W.Frag} {H : Hp} {O P : Addr → Prop} : ∀ {ms : List PM} {vs : List V} {ds : List D}, ArgsOk K H O P ms vs ds → vs.length = ms.length ∧ ds.length = ms.length
  | [], [], [], _ => ⟨rfl, rfl⟩
  | _ :: _, _ :: _, _ :: _, h => by have := ArgsOk.len h.2; simp [this.1, this.2]
  | [], [], _ :: _, h => h.elim
  | [], _ :: _, _, h => h.elim
  | _ :: _, [], _, h => h.elim
  | _ :: _, _ :: _, [], h => h.elim
def pass1 : RK → PM → Bool
  | .fz, .fz => true
  | .pl, .pl => true
  | .pl, _ => false
  | .np, _ => false
  | _, .rd => true
  | _, _ => false
def passA : List RK → List PM → Bool
  | [], [] => true
  | k :: ks, m :: ms => pass1 k m && passA ks ms
  | _, _ => false
section
variable {K : PySem.W.Frag} {κ : List SK} {g g' : Rg} {env env' : En} {σ : St} {H H' H0 : Hp} {M : List Nat}
theorem Res.arg {k : RK} {m : PM} {v : V} {d : D} (f : Frm K κ g env σ H) (hp : pass1 k m = true) (r : Res K g k H0 H v d) : ArgOk K H g.own g.P m v d := by
  cases k with
  | fz => cases m <;> first | exact r | exact .inl r | simp [pass1] at hp
  | rd => cases m <;> first | exact r.imp id (fun ⟨a, e, np, hi, q⟩ => ⟨a, e, np, .inl (f.il a hi), q⟩) | simp [pass1] at hp
  | nw => cases m <;> first | (obtain ⟨p, e, _, hO, np, q⟩ := r; exact .inr ⟨p, e, np, .inl hO, q.r⟩) | simp [pass1] at hp
  | ow i => cases m <;> first | (obtain ⟨p, e, ea, q⟩ := r; exact .inr ⟨p, e, fun z => (f.alo i p ea).1 (f.pl p z).1, .inr ⟨i, ea⟩, q.r⟩) | simp [pass1] at hp
  | pl => cases m <;> first | exact r | simp [pass1] at hp
  | np => cases m <;> simp [pass1] at hp
theorem ResA.args (f : Frm K κ g env σ H) : ∀ {ks : List RK} {ms : List PM} {vs : List V} {ds : List D}, passA ks ms = true → ResA K g H0 H ks vs ds → ArgsOk K H g.own g.P ms vs ds
  | [], [], [], [], _, _ => trivial
  | k :: ks, m :: ms, v :: vs, d :: ds, hp, h => by
    simp only [passA, Bool.and_eq_true] at hp
    exact ⟨h.1.arg f hp.1, ResA.args f hp.2 h.2⟩
  | [], _ :: _, _, _, hp, _ => by simp [passA] at hp
  | _ :: _, [], _, _, hp, _ => by simp [passA] at hp
  | [], [], [], _ :: _, _, h => h.elim
  | [], [], _ :: _, _, _, h => h.elim
  | _ :: _, _ :: _, [], _, _, h => h.elim
  | _ :: _, _ :: _, _ :: _, [], _, h => h.elim
/-- behind a call -/
theorem ResC.back {k : RK} {v : V} {d : D} (f : Frm K κ g env σ H) (hk : k = .fz ∨ k = .nw) (kp : ∀ b o, H b = some o → ¬ g.P b → H' b = some o) (pl : ∀ b, g.P b → Pool H' b) (r : ResC K k H H' g.own v d) :
    ∃ g', Frm K κ g' env σ H' ∧ EStep [] g g' H H' ∧ Res K g' k H H' v d := by
  rcases hk with rfl | rfl
  · refine ⟨g, f.next kp pl rfl rfl rfl (fun a p => (f.pl a p).1) f.il fun a q => .inl q, ⟨rfl, rfl, rfl, fun _ q => q, fun _ q => .inl q, fun b o e p _ => kp b o e p, fun b p _ => pl b p⟩, r⟩
  · obtain ⟨p, rfl, n, r⟩ := r
    have F2 : Frm K κ (g.add p) env σ H' := f.next kp pl rfl rfl rfl (fun a p => .inl (f.pl a p).1) (fun a p => .inl (f.il a p)) fun a q => q.imp id fun e => by subst e; exact ⟨n, r.tk⟩
    refine ⟨g.add p, F2, ⟨rfl, rfl, rfl, fun _ q => .inl q, fun a q => q.imp id fun e => by subst e; exact n, fun b o e p _ => kp b o e p, fun b p _ => pl b p⟩, p, rfl, n, .inr rfl, fun q => f.own_ne (f.p_own q) n, ?_⟩
    exact r.keep (fun _ q => q) (fun _ _ _ q => q) fun a q => .inl (Rg.add_own.mp q)
end
section
variable {X : Cx} {κ : List SK} {M : List Nat} {k : RK} {pos : Pos}
theorem se_call {lv : Nat} {f : Addr} {fd : FuncData} {ps : List Str} {ms : List PM} {S : FS} {x : Str} {p : Pos} {e : Expr} {es : List Expr} {ks : List RK} {wl : WA} (F : FnOk X.prog X.w X.K X.mg X.base CX0 lv f fd ps (spOf X.K ms k S)) (hr : Room lv X.A) (hg : Gl X x) (hm : X.mg x = some (.ref f))
    (hk : PySem.W.keepIn X.K (.ref f) = true) (hb : Binds X.K fd ps []) (ha : SA X κ M ks (e :: es) wl) (hp : passA ks ms = true := by rfl) (kk : k = .fz ∨ k = .nw := by first | exact .inl rfl | exact .inr rfl) (hdb : (x == ("__debug__" : Str)) = false := by decide)
    (he : starEach (e :: es) X.env = (false, eval e X.env) :: starEach es X.env := by rfl) (hpl : (backTo pos (starEach es X.env)).any (·.1) = false := by rfl) : SE X κ M k (.Call (.Name x p) (e :: es) [] pos) (wCall S wl) :=
  SE.of (pe_call (E := E0) F hr hg hm hk hb .nil pass0 ha hdb he hpl) fun σ H Q ⟨g, env, W, Fr0, hw, post⟩ => ⟨g, env, _, Fr0, hw, fun vs H1 g1 e1 ds F1 s1 r1 w1 => by
    show spOf X.K ms k S (vs ++ []) H1 Q E0
    rw [List.append_nil]
    refine ⟨g1.own, g1.P, ds, _, fun a q => F1.own_tk q, fun a q => ⟨F1.p_own q, (F1.pl a q).2⟩, r1.args F1 hp, w1, fun v H2 d wd kp pl rc => ?_⟩
    obtain ⟨g2, F2, s2, r2⟩ := ResC.back F1 kk kp pl rc
    exact post v H2 g2 e1 d F2 (s1.tr (s2.mono fun _ q => nomatch q) Fr0 F1) (r2.back fun p q => s1.there Fr0 F1 q) wd⟩
theorem se_blt {id : String} {r : List V → Hp → VK → Prop} {f : List D → Option D} {x : Str} {p : Pos} {e : Expr} {es : List Expr} {ks : List RK} {wl : WA} (hc : CallR X (.builtin id) r) (hf : BlD X.K r f k) (hg : Gl X x) (hm : X.mg x = none) (hv : bootBuiltins x = some (.builtin id)) (ha : SA X κ M ks (e :: es) wl)
    (hk : ks.all RK.rdable = true := by rfl) (hn : x ≠ "__name__" := by decide) (hdb : (x == ("__debug__" : Str)) = false := by decide)
    (he : starEach (e :: es) X.env = (false, eval e X.env) :: starEach es X.env := by rfl) (hpl : (backTo pos (starEach es X.env)).any (·.1) = false := by rfl) : SE X κ M k (.Call (.Name x p) (e :: es) [] pos) (wBlt f wl) :=
  se_tCB (pe_callB hc hg hm hv ha hn hdb he hpl) hf hk
theorem se_bty {T : String} {r : List V → Hp → VK → Prop} {f : List D → Option D} {x : Str} {p : Pos} {e : Expr} {es : List Expr} {ks : List RK} {wl : WA} (hc : CallR X (.type T) r) (hf : BlD X.K r f k) (hg : Gl X x) (hm : X.mg x = none) (hv : bootBuiltins x = some (.type T)) (ha : SA X κ M ks (e :: es) wl)
    (hk : ks.all RK.rdable = true := by rfl) (hn : x ≠ "__name__" := by decide) (hdb : (x == ("__debug__" : Str)) = false := by decide)
    (he : starEach (e :: es) X.env = (false, eval e X.env) :: starEach es X.env := by rfl) (hpl : (backTo pos (starEach es X.env)).any (·.1) = false := by rfl) : SE X κ M k (.Call (.Name x p) (e :: es) [] pos) (wBlt f wl) :=
  se_tCB (pe_callTy hc hg hm hv ha hn hdb he hpl) hf hk
end

section
variable {X : Cx} {κ : List SK} {M : List Nat} {a b c : Expr} {w wa wb : WE} {ka kb k : RK} {pos : Pos} {rest : List Expr} {s t : WT}
theorem ResBl {K : PySem.W.Frag} {g : Rg} {k : RK} {H0 H : Hp} {v : V} {b : Bool} (hk : k.rdable = true) (r : Res K g k H0 H v (.bool b)) : v = .bl b := by
  rcases r.rdb hk with q | ⟨a, e, q⟩
  · exact q.toBl
  · cases q
theorem st_tB {te : TE} {c : Expr} (h : PT X c (L2.tB te)) (i : ∀ σ H Q, cE X.K κ M .fz w σ H Q → te σ H Q) : ST X κ M c (tVal w) :=
  ST.of h fun σ H Q ⟨g, env, W, F, hw, post⟩ => i σ H _ ⟨g, env, _, F, hw, fun v H' g' env' d F' s r ⟨b, e, wb⟩ => by
    subst e
    exact ⟨b, r.toBl, post b H' g' env' F' s wb⟩⟩
theorem st_val (h : SE X κ M .fz a w) (he : ∀ whole, isTrue a X.env whole = (do let v ← whole; standAt a.pos; holding [v] (truthy v)) := by intro _; rfl) : ST X κ M a (tVal w) :=
  st_tB (pt_val h he) fun _ _ _ q => q
theorem st_cmp {op : CmpOp} {r : R2} {f : D → D → Option D} (ho : OpR X (compareOp op) r) (hf : OpD X.K r f .fz) (ha : SE X κ M ka a wa) (hb : SE X κ M kb b wb) (hm : behindInMarks op b = false) (hs : stable ka M = true := by rfl) (pa : ka.rdable = true := by rfl) (pb : kb.rdable = true := by rfl) :
    ST X κ M (.Compare a [op] [b] pos) (tVal (wOp2 f wa wb)) :=
  ST.of (pt_cmpR ho ha hb hm) fun σ H Q ⟨g, env, W, F, hw, post⟩ => ⟨g, env, _, F, hw, fun x H1 g1 e1 d1 F1 s1 r1 w1 => ⟨g1, e1, _, F1, w1, fun y H2 g2 e2 d2 F2 s2 r2 w2 => by
    obtain ⟨z, ez, bb, eb, wz⟩ := w2
    subst eb
    refine hf κ g2 e2 σ H2 x y d1 d2 _ _ F2 ((r1.step s2 F1 hs).rdb pa) (r2.rdb pb) ez fun v H3 g3 F3 s3 r3 => ?_
    have s12 := s1.tr s2 F F1
    exact ⟨bb, r3.toBl, post bb H3 g3 e2 F3 (s12.tr (s3.mono fun _ q => nomatch q) F F2) wz⟩⟩⟩
theorem st_not (h : ST X κ M a s) : ST X κ M (.UnaryOp .Not a pos) (tNot s) :=
  ST.of (pt_not h) fun σ H Q ⟨g, env, W, F, hw, post⟩ => ⟨g, env, _, F, hw, fun b H' g' env' F' s' w' => post (!b) H' g' env' F' s' w'⟩
def SW (X : Cx) (κ : List SK) (M : List Nat) (e : Expr) (w : WT) : Prop := PW X e (cT X.K κ M w)
theorem SW.of {c : Expr} {wt : WT} {t : TT} (h : PW X c t) (s : ∀ σ H Q, cT X.K κ M wt σ H Q → t σ H Q) : SW X κ M c wt := ⟨fun wh pins s0 σ H Q I q => h.run wh pins s0 σ H Q I (s σ H Q q)⟩
theorem SW.st (h : SW X κ M c s) : ST X κ M c s := ⟨h.run _⟩
theorem sw_and1 (h : ST X κ M a s) : SW X κ M (.BoolOp .And [a] pos) s := pw_and1 h
theorem sw_or1 (h : ST X κ M a s) : SW X κ M (.BoolOp .Or [a] pos) s := pw_or1 h
theorem sw_and (ha : ST X κ M a s) (hb : SW X κ M (.BoolOp .And (b :: rest) pos) t) : SW X κ M (.BoolOp .And (a :: b :: rest) pos) (tAnd s t) :=
  SW.of (pw_and ha hb) fun σ H Q ⟨g, env, W, F, hw, post⟩ => ⟨g, env, _, F, hw, fun b H' g' env' F' s' w' => by
    cases b with
    | true => exact ⟨g', env', _, F', w', fun b2 H2 g2 e2 F2 s2 w2 => post b2 H2 g2 e2 F2 (s'.tr s2 F F') w2⟩
    | false => exact post false H' g' env' F' s' w'⟩
theorem sw_or (ha : ST X κ M a s) (hb : SW X κ M (.BoolOp .Or (b :: rest) pos) t) : SW X κ M (.BoolOp .Or (a :: b :: rest) pos) (tOr s t) :=
  SW.of (pw_or ha hb) fun σ H Q ⟨g, env, W, F, hw, post⟩ => ⟨g, env, _, F, hw, fun b H' g' env' F' s' w' => by
    cases b with
    | false => exact ⟨g', env', _, F', w', fun b2 H2 g2 e2 F2 s2 w2 => post b2 H2 g2 e2 F2 (s'.tr s2 F F') w2⟩
    | true => exact post true H' g' env' F' s' w'⟩
theorem se_one {op} (h : SE X κ M k a w) : SE X κ M k (.BoolOp op [a] pos) w := pe_one h
theorem se_and (ha : SE X κ M .fz a wa) (hb : SE X κ M .fz (.BoolOp .And (b :: rest) pos) wb) : SE X κ M .fz (.BoolOp .And (a :: b :: rest) pos) (wAnd wa wb) :=
  SE.of (pe_and ha hb) fun σ H Q ⟨g, env, W, F, hw, post⟩ => ⟨g, env, _, F, hw, fun x H' g' env' d F' s' r ⟨c, e, w'⟩ => by
    subst e
    refine ⟨c, r.toBl, ?_⟩
    cases c with
    | true => exact ⟨g', env', _, F', w', fun v H2 g2 e2 d2 F2 s2 r2 w2 => post v H2 g2 e2 d2 F2 (s'.tr s2 F F') r2 w2⟩
    | false => exact post (.bl false) H' g' env' _ F' s' (.bl false) w'⟩
theorem se_not (ha : SE X κ M .fz a wa) : SE X κ M .fz (.UnaryOp .Not a pos) (wNot wa) :=
  SE.of (pe_not ha) fun σ H Q ⟨g, env, W, F, hw, post⟩ => ⟨g, env, _, F, hw, fun x H' g' env' d F' s' r ⟨c, e, w'⟩ => by
    subst e
    exact ⟨c, r.toBl, post (.bl (!c)) H' g' env' _ F' s' (.bl _) w'⟩⟩
end
end G7

set_option maxRecDepth 100000
namespace G7
open PySem PySem.Spec PyProof.Rows L2

def baseO (κ : List SK) (g : Rg) (a : Addr) : Prop := g.O a ∨ ∃ i, kindOf κ i = .q ∧ g.al i = some a
structure SStep (κ : List SK) (M : List Nat) (g g' : Rg) (H H' : Hp) : Prop where
  pu : ∀ a, g.P a → g'.P a
  pd : ∀ a, g'.P a → g.P a ∨ H a = none
  up : ∀ a, g.O a → g'.O a
  dn : ∀ a, g'.O a → g.O a ∨ H a = none
  al : ∀ i a, g'.al i = some a → g.al i = some a ∨ (∃ j, j ∈ M ∧ (kindOf κ j = .o ∨ kindOf κ j = .f) ∧ g.al j = some a) ∨ H a = none
  I : g'.I = g.I
  qs : ∀ i, isQ (kindOf κ i) = true → g'.al i = g.al i
  keep : ∀ b o, H b = some o → ¬ g.P b → (∀ i ∈ M, g.al i ≠ some b) → (999 ∈ M → g.O b ∨ ∀ xs, o ≠ .lst xs) → H' b = some o
  th : ∀ b, H b ≠ none → H' b ≠ none
  pool : ∀ b, g.P b → Pool H' b
def ResR (K : PySem.W.Frag) (κ : List SK) (k : RK) (g : Rg) (H H' : Hp) (v : V) (d : D) : Prop := match k with
  | .nw => ∃ p, v = .ref p ∧ (H p = none ∨ ∃ i, (kindOf κ i = .o ∨ kindOf κ i = .f) ∧ g.al i = some p) ∧ Obj1 K H' (fun a => baseO κ g a ∨ a = p) p d
  | _ => Rep K H' (baseO κ g) v d
def cS (K : PySem.W.Frag) (κ : List SK) (M : List Nat) (k : RK) (w : WS) : TS := fun D σ H => ∃ g env W, Frm K κ g env σ H ∧ w W env ∧
  (∀ g' env' σ' H', Frm K κ g' env' σ' H' → SStep κ M g g' H H' → W.nx env' → D.nx σ' H') ∧
  (∀ g' env' σ' H', Frm K κ g' env' σ' H' → SStep κ M g g' H H' → W.bk env' → D.bk σ' H') ∧
  (∀ g' env' σ' H', Frm K κ g' env' σ' H' → SStep κ M g g' H H' → W.ct env' → D.ct σ' H') ∧
  (∀ g' env' σ' H' v d, Frm K κ g' env' σ' H' → SStep κ M g g' H H' → ResR K κ k g H H' v d → W.rt d env' → D.rt v H')
def SS (X : Cx) (κ : List SK) (M : List Nat) (k : RK) (st : Stmt) (w : WS) : Prop := PS X st (cS X.K κ M k w)
def SSs (X : Cx) (κ : List SK) (M : List Nat) (k : RK) (st : List Stmt) (w : WS) : Prop := PSs X st (cS X.K κ M k w)

section
variable {K : PySem.W.Frag} {κ : List SK} {g g' g2 : Rg} {env env' env2 : En} {σ σ' σ2 : St} {H H' H2 : Hp} {M M' : List Nat} {v : V} {d : D} {k : RK}
theorem SStep.refl (f : Frm K κ g env σ H) : SStep κ M g g H H := ⟨fun _ h => h, fun _ h => .inl h, fun _ h => h, fun _ h => .inl h, fun _ _ h => .inl h, rfl, fun _ _ => rfl, fun _ _ h _ _ _ => h, fun _ h => h, fun b p => (f.pl b p).2⟩
theorem SStep.trans (h : SStep κ M g g' H H') (h2 : SStep κ M g' g2 H' H2) : SStep κ M g g2 H H2 := by
  have bk : ∀ a, H' a = none → H a = none := fun a e => by
    cases q : H a with
    | none => rfl
    | some o => exact absurd e (h.th a (by rw [q]; simp))
  refine ⟨fun a p => h2.pu a (h.pu a p), fun a p => (h2.pd a p).elim (h.pd a) fun e => .inr (bk a e), fun a p => h2.up a (h.up a p), fun a p => (h2.dn a p).elim (h.dn a) fun e => .inr (bk a e),
    fun i a p => (h2.al i a p).elim (h.al i a) fun e => e.elim (fun ⟨j, hj, kj, ej⟩ => (h.al j a ej).elim (fun z => .inr (.inl ⟨j, hj, kj, z⟩)) .inr) fun e => .inr (.inr (bk a e)), h2.I.trans h.I, fun i q => (h2.qs i q).trans (h.qs i q), fun b o e p q v => ?_, fun b e => h2.th b (h.th b e), fun b p => h2.pool b (h.pu b p)⟩
  refine h2.keep b o (h.keep b o e p q v) (fun z => (h.pd b z).elim p fun n => by rw [e] at n; cases n) (fun i hi z => ?_) fun h9 => (v h9).imp (h.up b) id
  rcases h.al i b z with n | ⟨j, hj, _, n⟩ | n
  · exact q i hi n
  · exact q j hj n
  · rw [e] at n; cases n
theorem SStep.mono (h : SStep κ M g g' H H') (s : ∀ i ∈ M, i ∈ M') : SStep κ M' g g' H H' := ⟨h.pu, h.pd, h.up, h.dn, fun i a e => (h.al i a e).imp id (Or.imp (fun ⟨j, hj, r⟩ => ⟨j, s j hj, r⟩) id), h.I, h.qs, fun b o e p q v => h.keep b o e p (fun i hi => q i (s i hi)) fun h9 => v (s _ h9), h.th, h.pool⟩
theorem EStep.toS (h : EStep M g g' H H') (f : Frm K κ g env σ H) (f' : Frm K κ g' env' σ' H') : SStep κ M g g' H H' := by
  refine ⟨fun a p => by rw [h.P]; exact p, fun a p => by rw [h.P] at p; exact .inl p, h.up, h.dn, fun i a e => by rw [h.al] at e; exact .inl e, h.I, fun i _ => by rw [h.al], fun b o e p q _ => h.keep b o e p q, fun b n e => ?_, fun b p => h.pool b p (f.pl b p).2⟩
  have : ∀ {σ1 : St}, Frm K κ g env σ1 H → True := fun _ => trivial
  cases q : H b with
  | none => exact n q
  | some o =>
    by_cases hp : g.P b
    · obtain ⟨x, y, z, r⟩ := h.pool b hp (f.pl b hp).2
      rw [r] at e; cases e
    · by_cases hm : ∀ i ∈ M, g.al i ≠ some b
      · rw [h.keep b o q hp hm] at e; cases e
      · have : ∃ i, i ∈ M ∧ g.al i = some b := by
          apply Classical.byContradiction
          intro c
          exact hm fun i hi z => c ⟨i, hi, z⟩
        obtain ⟨i, hi, z⟩ := this
        exact absurd e (f'.alo i b (by rw [h.al]; exact z)).2
theorem SStep.base (h : SStep κ M g g' H H') : ∀ a, baseO κ g a → baseO κ g' a := fun a q => by
  rcases q with q | ⟨i, hk, q⟩
  · exact .inl (h.up a q)
  · exact .inr ⟨i, hk, by rw [h.qs i (by rw [hk]; rfl)]; exact q⟩
theorem baseO_own {a : Addr} (h : baseO κ g a) : g.own a := h.imp id fun ⟨i, _, e⟩ => ⟨i, e⟩
/-- an answer behind a step is one ahead of it -/
theorem ResR.back (h : SStep κ M g g' H H') (r : ResR K κ k g' H' H2 v d) : ResR K κ k g H H2 v d := by
  have less : ∀ {v d}, Rep K H2 (baseO κ g') v d → Rep K H2 (baseO κ g) v d := fun r => r.keep (fun _ _ _ q => q) fun a q => .inl (h.base a q)
  cases k with
  | fz => exact less r
  | rd => exact less r
  | ow i => exact less r
  | pl => exact less r
  | np => exact less r
  | nw =>
    obtain ⟨p, rfl, n, r⟩ := r
    refine ⟨p, rfl, ?_, r.keep (fun _ q => q) (fun _ _ _ q => q) fun a q => .inl (q.imp (h.base a) id)⟩
    rcases n with n | ⟨i, hk, e⟩
    · left
      cases q : H p with
      | none => rfl
      | some o => exact absurd n (h.th p (by rw [q]; simp))
    · rcases h.al i p e with z | ⟨j, _, kj, z⟩ | z
      · exact .inr ⟨i, hk, z⟩
      · exact .inr ⟨j, kj, z⟩
      · exact .inl z
end
section
variable {X : Cx} {κ : List SK} {M Me : List Nat} {k ke : RK} {st : Stmt} {sts : List Stmt} {e : Expr} {w wa : WE} {s t : WS} {pos : Pos}
theorem SS.of {t' : TS} (h : PS X st t') (i : ∀ D σ H, cS X.K κ M k s D σ H → t' D σ H) : SS X κ M k st s := ⟨fun pins s0 σ H D I q => h.run pins s0 σ H D I (i D σ H q)⟩
theorem SSs.of {t' : TS} (h : PSs X sts t') (i : ∀ D σ H, cS X.K κ M k s D σ H → t' D σ H) : SSs X κ M k sts s := ⟨fun pins s0 σ H D I q => h.run pins s0 σ H D I (i D σ H q)⟩
theorem SSs.imp {s' : WS} (h : SSs X κ M k sts s) (i : ∀ W en, s' W en → s W en) : SSs X κ M k sts s' := SSs.of h fun D σ H ⟨g, env, W, F, hw, r⟩ => ⟨g, env, W, F, i _ _ hw, r⟩
theorem SS.mono {M' : List Nat} (h : SS X κ M k st s) (m : ∀ i ∈ M, i ∈ M' := by decide) : SS X κ M' k st s := SS.of h fun D σ H ⟨g, env, W, F, hw, n, b, c, r⟩ =>
  ⟨g, env, W, F, hw, fun g' env' σ' H' F' s' => n g' env' σ' H' F' (s'.mono m), fun g' env' σ' H' F' s' => b g' env' σ' H' F' (s'.mono m), fun g' env' σ' H' F' s' => c g' env' σ' H' F' (s'.mono m), fun g' env' σ' H' v d F' s' => r g' env' σ' H' v d F' (s'.mono m)⟩
/-- what a statement does, going on behind a step -/
theorem cS.go {K : PySem.W.Frag} {g g1 : Rg} {env1 : En} {σ1 : St} {H H1 : Hp} {W1 : WD} (F1 : Frm K κ g1 env1 σ1 H1) (s1 : SStep κ M g g1 H H1) (hw : s W1 env1) {D' : Ends}
    (n : ∀ g' env' σ' H', Frm K κ g' env' σ' H' → SStep κ M g g' H H' → W1.nx env' → D'.nx σ' H') (b : ∀ g' env' σ' H', Frm K κ g' env' σ' H' → SStep κ M g g' H H' → W1.bk env' → D'.bk σ' H')
    (c : ∀ g' env' σ' H', Frm K κ g' env' σ' H' → SStep κ M g g' H H' → W1.ct env' → D'.ct σ' H') (r : ∀ g' env' σ' H' v d, Frm K κ g' env' σ' H' → SStep κ M g g' H H' → ResR K κ k g H H' v d → W1.rt d env' → D'.rt v H') : cS K κ M k s D' σ1 H1 :=
  ⟨g1, env1, W1, F1, hw, fun g' env' σ' H' F' s' => n g' env' σ' H' F' (s1.trans s'), fun g' env' σ' H' F' s' => b g' env' σ' H' F' (s1.trans s'), fun g' env' σ' H' F' s' => c g' env' σ' H' F' (s1.trans s'),
    fun g' env' σ' H' v d F' s' rr => r g' env' σ' H' v d F' (s1.trans s') (rr.back s1)⟩
theorem sss_nil : SSs X κ M k [] wNil := SSs.of pss_nil fun D σ H ⟨g, env, W, F, hw, n, _⟩ => n g env σ H F (.refl F) hw
theorem sss_cons (h1 : SS X κ M k st s) (h2 : SSs X κ M k sts t) : SSs X κ M k (st :: sts) (wSeq s t) :=
  SSs.of (pss_cons h1 h2) fun D σ H ⟨g, env, W, F, hw, n, b, c, r⟩ => ⟨g, env, _, F, hw, fun g' env' σ' H' F' s' w' => cS.go (K := X.K) (g := g) (H := H) (W1 := W) (D' := D) F' s' w' n b c r, b, c, r⟩
theorem sss_one (h1 : SS X κ M k st s) : SSs X κ M k [st] s := SSs.of (pss_one h1) fun _ _ _ q => q
theorem ss_if {c : Expr} {a b : List Stmt} {wt : WT} (hc : ST X κ Me c wt) (ha : SSs X κ M k a s) (hb : SSs X κ M k b t) (sub : ∀ i ∈ Me, i ∈ M := by decide) : SS X κ M k (.If c a b pos) (wIf wt s t) :=
  SS.of (ps_if hc ha hb) fun D σ H ⟨g, env, W, F, hw, n, b, c, r⟩ => ⟨g, env, _, F, hw, fun x H1 g1 e1 F1 s1 w1 => by
    have s1' := (s1.mono sub).toS F F1
    cases x with
    | true => exact cS.go (K := X.K) (g := g) (H := H) (W1 := W) (D' := D) F1 s1' w1 n b c r
    | false => exact cS.go (K := X.K) (g := g) (H := H) (W1 := W) (D' := D) F1 s1' w1 n b c r⟩
theorem ss_expr (he : SE X κ Me ke e w) (hs : swapsWith e none pos.line X.env = pure false := by rfl) (sub : ∀ i ∈ Me, i ∈ M := by decide) : SS X κ M k (.Expr e pos) (wExpr w) :=
  SS.of (ps_expr he hs) fun D σ H ⟨g, env, W, F, hw, n, b, c, r⟩ => ⟨g, env, _, F, hw, fun v H1 g1 e1 d F1 s1 _ w1 => n g1 e1 σ H1 F1 ((s1.mono sub).toS F F1) w1⟩
theorem ss_ret (he : SE X κ Me .fz e w) (sub : ∀ i ∈ Me, i ∈ M := by decide) : SS X κ M .fz (.Return (some e) pos) (wRet w) :=
  SS.of (ps_ret he) fun D σ H ⟨g, env, W, F, hw, n, b, c, r⟩ => ⟨g, env, _, F, hw, fun v H1 g1 e1 d F1 s1 r1 w1 => by
    have s1' := (s1.mono sub).toS F F1
    refine r g1 e1 σ H1 v d F1 s1' ?_ w1
    exact Rep.keep (fun _ _ _ q => q) (fun a q => .inl (baseO_own (s1'.base a q))) r1⟩
theorem ss_retw (he : SE X κ Me .nw e w) (sub : ∀ i ∈ Me, i ∈ M := by decide) : SS X κ M .nw (.Return (some e) pos) (wRet w) :=
  SS.of (ps_ret he) fun D σ H ⟨g, env, W, F, hw, n, b, c, r⟩ => ⟨g, env, _, F, hw, fun v H1 g1 e1 d F1 s1 ⟨p, e, np, hO, hP, r1⟩ w1 => by
    have s1' := (s1.mono sub).toS F F1
    refine r g1 e1 σ H1 v d F1 s1' ⟨p, e, .inl np, r1.keep (fun _ q => q) (fun _ _ _ q => q) fun a q => .inl ?_⟩ w1
    rcases q with q | q
    · exact baseO_own (s1'.base a q)
    · subst q; exact .inl hO⟩
theorem ss_retof {i : Nat} (he : SE X κ Me (.ow i) e w) (hk : kindOf κ i = .o) (sub : ∀ i ∈ Me, i ∈ M := by decide) : SS X κ M .fz (.Return (some e) pos) (wRet w) :=
  SS.of (ps_ret he) fun D σ H ⟨g, env, W, F, hw, n, b, c, r⟩ => ⟨g, env, _, F, hw, fun v H1 g1 e1 d F1 s1 ⟨p, e, ea, r1⟩ w1 => by
    have s1' := (s1.mono sub).toS F F1
    subst e
    refine r g1 e1 σ H1 _ d F1 s1' ((r1.keep (S' := baseO κ g) (fun _ q => q) (fun _ _ _ q => q) fun a q => .inl (baseO_own (s1'.base a q))).rep fun q => ?_) w1
    rcases s1'.base p q with z | ⟨j, hj, z⟩
    · exact (F1.alo i p ea).1 z
    · have := F1.inj i j p ea z
      subst this
      rw [hk] at hj; cases hj⟩
theorem Frm.set {K : PySem.W.Frag} {g : Rg} {env : En} {σ : St} {H : Hp} (F : Frm K κ g env σ H) {i : Nat} {v : V} {d : D} (s : SlotK K g H (kindOf κ i) i v d) : Frm K κ g (env.set i (some d)) (σ.set i (some v)) H := by
  refine ⟨by simp [F.ln], by simp [F.sl], fun j d' e => ?_, F.inj, F.alo', F.ot', F.il, F.pl⟩
  by_cases hj : i = j
  · subst hj
    have hi : i < env.length := by
      apply Classical.byContradiction
      intro c
      rw [List.getElem?_eq_none (by simpa using c)] at e; cases e
    rw [List.getElem?_set_self hi] at e
    cases e
    exact ⟨v, by rw [List.getElem?_set_self (by rw [F.sl, ← F.ln]; exact hi)], s⟩
  · rw [List.getElem?_set_ne hj] at e
    obtain ⟨v', e1, s'⟩ := F.ev j d' e
    exact ⟨v', by rw [List.getElem?_set_ne hj]; exact e1, s'⟩
theorem ss_tAsg {i : Nat} (h : PS X st (tAsg (cE X.K κ Me .fz w) (gName i))) (hk : kindOf κ i = .v) (sub : ∀ i ∈ Me, i ∈ M) : SS X κ M k st (wAsg i w) :=
  SS.of h fun D σ H ⟨g, env, W, F, hw, n, b, c, r⟩ => ⟨g, env, _, F, hw, fun v H1 g1 e1 d F1 s1 r1 w1 =>
    n g1 _ _ H1 (F1.set (by rw [hk]; exact r1)) ((s1.mono sub).toS F F1) w1⟩
/-- a new thing becomes a slot's own -/
theorem Frm.take {K : PySem.W.Frag} {g g1 : Rg} {env env1 : En} {σ : St} {H H1 : Hp} {i : Nat} {p : Addr} {d : D} (F : Frm K κ g env σ H) (F1 : Frm K κ g1 env1 σ H1) (s : EStep Me g g1 H H1) (sub : ∀ i ∈ Me, i ∈ M) (hi : i ∈ M) (hk : kindOf κ i = .o ∨ kindOf κ i = .f) (n : H p = none) (hO : g1.O p) (hP : ¬ g1.P p) (r : Obj1 K H1 g1.own p d) :
    ∃ g', Frm K κ g' (env1.set i (some d)) (σ.set i (some (.ref p))) H1 ∧ SStep κ M g g' H H1 := by
  have s1 := (s.mono sub).toS F F1
  have npal : ∀ j, g1.al j ≠ some p := fun j e => (F1.alo j p e).1 hO
  have nO : ¬ g.O p := fun q => F.ot p q n
  have own : ∀ a, Rg.own ⟨g.O, g1.P, g1.I, fun j => if j = i then some p else g1.al j⟩ a → g1.own a := fun a q => by
    rcases q with q | ⟨j, q⟩
    · exact .inl (s.up a q)
    · simp only at q
      split at q
      · cases q; exact .inl hO
      · exact .inr ⟨j, q⟩
  refine ⟨⟨g.O, g1.P, g1.I, fun j => if j = i then some p else g1.al j⟩, ⟨by simp [F1.ln], by simp [F1.sl], fun j d' e => ?_, fun j j' a e e' => ?_, fun j a e => ?_, fun a q => F1.ot' a (s.up a q), fun a q => F.il a (by rw [← s.I]; exact q), fun a q => ?_⟩, ⟨s1.pu, s1.pd, fun _ q => q, fun _ q => .inl q, fun j a e => ?_, s1.I, fun j q => ?_, s1.keep, s1.th, s1.pool⟩⟩
  · by_cases hj : i = j
    · subst hj
      have hl : i < env1.length := by
        apply Classical.byContradiction
        intro c
        rw [List.getElem?_eq_none (by simpa using c)] at e; cases e
      rw [List.getElem?_set_self hl] at e
      cases e
      have so : ∃ a, V.ref p = .ref a ∧ (if i = i then some p else g1.al i) = some a ∧ Obj1 K H1 (Rg.own ⟨g.O, g1.P, g1.I, fun j => if j = i then some p else g1.al j⟩) a d := ⟨p, rfl, by simp, r.keep (fun _ q => q) (fun _ _ _ q => q) fun a q => .inl (own a q)⟩
      refine ⟨.ref p, by rw [List.getElem?_set_self (by rw [F1.sl, ← F1.ln]; exact hl)], ?_⟩
      rcases hk with hk | hk <;> rw [hk]
      · exact so
      · exact .inl so
    · rw [List.getElem?_set_ne hj] at e
      obtain ⟨v', e1, s'⟩ := F1.ev j d' e
      refine ⟨v', by rw [List.getElem?_set_ne hj]; exact e1, ?_⟩
      have hj' : j ≠ i := fun z => hj z.symm
      cases hkj : kindOf κ j <;> rw [hkj] at s' <;> unfold SlotK at s' ⊢ <;> simp only at s' ⊢
      · exact s'
      · exact Rep.keep (fun _ _ _ q => q) (fun a q => .inl (own a q)) s'
      · rcases s' with s' | ⟨a, rfl, np, na, s'⟩
        · exact .inl (Rep.keep (fun _ _ _ q => q) (fun a q => .inl (own a q)) s')
        · exact .inr ⟨a, rfl, np, na, s'.keep (fun _ q => q) (fun _ _ _ q => q) fun a q => .inl (own a q)⟩
      · obtain ⟨a, rfl, ea, s'⟩ := s'
        exact ⟨a, rfl, by simp [hj', ea], s'.keep (fun _ q => q) (fun _ _ _ q => q) fun a q => .inl (own a q)⟩
      · obtain ⟨a, rfl, ea, s'⟩ := s'
        exact ⟨a, rfl, by simp [hj', ea], s'.keep (fun _ q => q) (fun _ _ _ q => q) fun a q => .inl (own a q)⟩
      · obtain ⟨a, rfl, ea, s'⟩ := s'
        exact ⟨a, rfl, by simp [hj', ea], s'.keep (fun _ q => q) (fun _ _ _ q => q) fun a q => .inl (own a q)⟩
      · exact s'
      · rcases s' with ⟨a, rfl, ea, s'⟩ | ⟨d', e', s'⟩
        · exact .inl ⟨a, rfl, by simp [hj', ea], s'.keep (fun _ q => q) (fun _ _ _ q => q) fun a q => .inl (own a q)⟩
        · exact .inr ⟨d', e', Rep.keep (fun _ _ _ q => q) (fun a q => .inl (own a q)) s'⟩
  · simp only at e e'
    split at e <;> split at e'
    · rename_i h1 h2; rw [h1, h2]
    · cases e; exact absurd e' (npal j')
    · cases e'; exact absurd e (npal j)
    · exact F1.inj j j' a e e'
  · simp only at e
    split at e
    · cases e; exact ⟨nO, r.tk⟩
    · obtain ⟨h1, h2⟩ := F1.alo' j a e
      exact ⟨fun q => h1 (s.up a q), h2⟩
  · rw [show g1.P a = g.P a from by rw [s.P]] at q
    exact ⟨(F.pl a q).1, (F1.pl a (by rw [s.P]; exact q)).2⟩
  · simp only at e
    split at e
    · cases e; exact .inr (.inr n)
    · rw [s.al] at e; exact .inl e
  · have hj : j ≠ i := fun z => by rcases hk with hk | hk <;> rw [z, hk] at q <;> exact absurd q (by decide)
    simp [hj, s.al]
end
end G7

set_option maxRecDepth 100000
namespace G7
open PySem PySem.Spec PyProof.Rows L2

section
variable {X : Cx} {κ : List SK} {M Me : List Nat} {k ke : RK} {st : Stmt} {sts : List Stmt} {e : Expr} {w wa : WE} {s t : WS} {pos : Pos}
theorem ss_tAsgO {i : Nat} (h : PS X st (tAsg (cE X.K κ Me .nw w) (gName i))) (hk : kindOf κ i = .o) (hi : i ∈ M) (sub : ∀ i ∈ Me, i ∈ M) : SS X κ M k st (wAsg i w) :=
  SS.of h fun D σ H ⟨g, env, W, F, hw, n, b, c, r⟩ => ⟨g, env, _, F, hw, fun v H1 g1 e1 d F1 s1 ⟨p, e, np, hO, hP, r1⟩ w1 => by
    subst e
    obtain ⟨g2, F2, s2⟩ := Frm.take F F1 s1 sub hi (.inl hk) np hO hP r1
    exact n g2 _ _ H1 F2 s2 w1⟩
theorem ss_tAsgF {i : Nat} (h : PS X st (tAsg (cE X.K κ Me .nw w) (gName i))) (hk : kindOf κ i = .f) (hi : i ∈ M) (sub : ∀ i ∈ Me, i ∈ M) : SS X κ M k st (wAsg i w) :=
  SS.of h fun D σ H ⟨g, env, W, F, hw, n, b, c, r⟩ => ⟨g, env, _, F, hw, fun v H1 g1 e1 d F1 s1 ⟨p, e, np, hO, hP, r1⟩ w1 => by
    subst e
    obtain ⟨g2, F2, s2⟩ := Frm.take F F1 s1 sub hi (.inr hk) np hO hP r1
    exact n g2 _ _ H1 F2 s2 w1⟩
/-- a new list of three ints becomes a pool -/
def wAsgP (i : Nat) (a : WE) : WS := fun W e => a e fun d e1 => ∃ x y z : Int, d = .list [.int x, .int y, .int z] ∧ W.nx (e1.set i (some .none))
theorem ss_tAsgP {i : Nat} (h : PS X st (tAsg (cE X.K κ Me .nw w) (gName i))) (hk : kindOf κ i = .p) (sub : ∀ i ∈ Me, i ∈ M) : SS X κ M k st (wAsgP i w) :=
  SS.of h fun D σ H ⟨g, env, W, F, hw, n, b, c, r⟩ => ⟨g, env, _, F, hw, fun v H1 g1 e1 d F1 s1 ⟨p, e, np, hO, hP, r1⟩ ⟨x, y, z, ed, w1⟩ => by
    subst e ed
    have st1 := (s1.mono sub).toS F F1
    cases r1 with
    | lst e zl al =>
      cases al with | cons r1 al => cases al with | cons r2 al => cases al with | cons r3 al => cases al with | nil =>
      have pl : Pool H1 p := ⟨x, y, z, by rw [e, r1.toInt, r2.toInt, r3.toInt]⟩
      have F2 : Frm X.K κ { g1 with P := fun a => g1.P a ∨ a = p } e1 σ H1 := by
        refine ⟨F1.ln, F1.sl, fun j d' ej => ?_, F1.inj, F1.alo', F1.ot', F1.il, fun a q => ?_⟩
        · obtain ⟨v', e1, s'⟩ := F1.ev j d' ej
          refine ⟨v', e1, ?_⟩
          cases hkj : kindOf κ j <;> rw [hkj] at s' <;> unfold SlotK at s' ⊢ <;> simp only at s' ⊢
          · exact s'
          · exact s'
          · rcases s' with s' | ⟨a, rfl, np', na, s'⟩
            · exact .inl s'
            · refine .inr ⟨a, rfl, fun q => q.elim np' fun z => ?_, na, s'⟩
              subst z
              exact F.ot a (F.il a (by rw [← s1.I]; exact na)) np
          · exact s'
          · exact s'
          · exact s'
          · obtain ⟨a, rfl, q, s'⟩ := s'; exact ⟨a, rfl, .inl q, s'⟩
          · exact s'
        · rcases q with q | q
          · exact F1.pl a q
          · subst q; exact ⟨hO, pl⟩
      refine n { g1 with P := fun a => g1.P a ∨ a = p } _ _ H1 (F2.set (by rw [hk]; exact ⟨p, rfl, .inr rfl, rfl⟩)) ⟨fun a q => .inl (st1.pu a q), fun a q => q.elim (st1.pd a) fun z => .inr (by rw [z]; exact np), st1.up, st1.dn, st1.al, st1.I, st1.qs, st1.keep, st1.th, st1.pool⟩ w1⟩
def Off (ts : List Nat) (σ σ' : St) : Prop := σ'.length = σ.length ∧ ∀ j, j ∉ ts → σ'[j]? = σ[j]?
def isTupE : Expr → Bool
  | .Tuple _ _ _ => true
  | _ => false
/-- an item of a walk; under a written tuple it may be any tuple just laid -/
def RepI (K : PySem.W.Frag) (H : Hp) (S : Addr → Prop) (b : Bool) (v : V) (d : D) : Prop := Rep K H S v d ∨ (b = true ∧ ∃ T vs ds, v = .ref T ∧ d = .tuple ds ∧ Rd H T (.tup vs) ∧ RepAll K H S vs ds)
def cG (K : PySem.W.Frag) (κ : List SK) (ts : List Nat) (tb : Bool) (f : WG) : TG := fun v σ H Q => ∃ g env d env', Frm K κ g env σ H ∧ RepI K H g.own tb v d ∧ f d env = some env' ∧ ∀ σ', Frm K κ g env' σ' H → Off ts σ σ' → Q σ' H
def SG (X : Cx) (κ : List SK) (ts : List Nat) (e : Expr) (f : WG) : Prop := PG X e (cG X.K κ ts (isTupE e) f)
theorem SG.of {f : WG} {ts : List Nat} {t : TG} (h : PG X e t) (i : ∀ v σ H Q, cG X.K κ ts (isTupE e) f v σ H Q → t v σ H Q) : SG X κ ts e f := ⟨fun pins s σ H v u Q I r q => h.run pins s σ H v u Q I r (i v σ H Q q)⟩
theorem sg_name {i : Nat} {x : Str} (h : PG X (.Name x pos) (gName i)) (hk : kindOf κ i = .v) : SG X κ [i] (.Name x pos) (gN i) :=
  SG.of h fun v σ H Q ⟨g, env, d, env', F, r, e, q⟩ => by
    cases e
    have r : Rep X.K H g.own v d := r.elim id fun z => Bool.noConfusion z.1
    exact q _ (F.set (by rw [hk]; exact r)) ⟨by simp, fun j hj => by rw [List.getElem?_set_ne (fun z => hj (by simp [z]))]⟩
def cGs (K : PySem.W.Frag) (κ : List SK) (ts : List Nat) (fs : List WG) : TGs := fun vs σ H Q => ∃ g env ds env', Frm K κ g env σ H ∧ RepAll K H g.own vs ds ∧ gAll fs ds env = some env' ∧ ∀ σ', Frm K κ g env' σ' H → Off ts σ σ' → Q σ' H
def SGs (X : Cx) (κ : List SK) (ts : List Nat) (es : List Expr) (fs : List WG) : Prop := PGs X es (cGs X.K κ ts fs)
theorem SGs.of {es : List Expr} {ts : List Nat} {fs : List WG} {t : TGs} (h : PGs X es t) (i : ∀ v σ H Q, cGs X.K κ ts fs v σ H Q → t v σ H Q) : SGs X κ ts es fs := ⟨fun pins s σ H v u Q I r q => h.run pins s σ H v u Q I r (i v σ H Q q)⟩
theorem sgs_nil : SGs X κ [] [] [] := SGs.of pgs_nil fun vs σ H Q ⟨g, env, ds, env', F, r, e, q⟩ => by
  cases ds with
  | nil => cases r; simp [gAll] at e; subst e; exact ⟨rfl, q σ F ⟨rfl, fun _ _ => rfl⟩⟩
  | cons _ _ => simp [gAll] at e
theorem sgs_cons {es : List Expr} {ts us : List Nat} {f : WG} {fs : List WG} (h1 : SG X κ ts e f) (h2 : SGs X κ us es fs) (hs : (assignEach (e :: es) X.env).map (·.2) = assign e X.env :: (assignEach es X.env).map (·.2) := by rfl) : SGs X κ (ts ++ us) (e :: es) (f :: fs) :=
  SGs.of (pgs_cons h1 h2 hs) fun vs σ H Q ⟨g, env, ds, env', F, r, e, q⟩ => by
    cases ds with
    | nil => simp [gAll] at e
    | cons d ds =>
      cases r with
      | cons r rs =>
        simp only [gAll, Option.bind_eq_some_iff] at e
        obtain ⟨e1, h1, h2⟩ := e
        exact ⟨_, _, rfl, g, env, d, e1, F, .inl r, h1, fun σ' F' o => ⟨g, e1, ds, env', F', rs, h2, fun σ2 F2 o2 => q σ2 F2 ⟨o2.1.trans o.1, fun j hj => (o2.2 j fun z => hj (List.mem_append_right _ z)).trans (o.2 j fun z => hj (List.mem_append_left _ z))⟩⟩⟩
theorem sg_tup {es : List Expr} {ts : List Nat} {fs : List WG} {j : Nat} (hc : X.calm = true) (h : SGs X κ ts es fs) (hn : (assignEach es X.env).length = fs.length := by rfl) (hst : (assignEach es X.env).findIdx? (·.1) = none := by rfl) : SG X κ ts (.Tuple es j pos) (gT fs) :=
  SG.of (pg_tup hc h hn hst) fun v σ H Q ⟨g, env, d, env', F, r, e, q⟩ => by
    cases d with
    | tuple ds =>
      have r : ∃ a xs, v = .ref a ∧ SqT X.K H a xs ∧ RepAll X.K H g.own xs ds := by
        rcases r with r | ⟨_, T, vs, ds', ev, ed, q, al⟩
        · obtain ⟨a, xs, rfl, ta, z, al⟩ := r.toTup
          exact ⟨a, xs, rfl, sqT_of ta, al⟩
        · cases ed
          exact ⟨T, vs, ev, .inl q, al⟩
      obtain ⟨a, xs, rfl, ta, al⟩ := r
      refine ⟨a, xs, rfl, ta, ?_, g, env, ds, env', F, al, e, q⟩
      have : ∀ (fs : List WG) (ds : List D) (env : En), gAll fs ds env = some env' → ds.length = fs.length := by
        intro fs
        induction fs with
        | nil => intro ds env h; cases ds with
          | nil => rfl
          | cons _ _ => simp [gAll] at h
        | cons f fs ih => intro ds env h; cases ds with
          | nil => simp [gAll] at h
          | cons d ds =>
            simp only [gAll, Option.bind_eq_some_iff] at h
            obtain ⟨e1, _, h2⟩ := h
            simp [ih ds e1 h2]
      rw [al.length]
      exact this fs ds env e
    | _ => simp [gT] at e
theorem ss_set {i : Nat} {x : Str} {pos' : Pos} (hN : X.N.Nodup) (hi : X.N[i]? = some x) (hx : Loc X.env.scope x) (he : SE X κ Me .fz e w) (hk : kindOf κ i = .v) (hs : swapsWith e (some (.Name x pos')) pos.line X.env = pure false := by rfl) (sub : ∀ i ∈ Me, i ∈ M := by decide)
    (hf : X.fn x = true ∨ X.env.scope.names.lookup x = some .local := by first | exact .inl rfl | exact .inr rfl | assumption) : SS X κ M k (.Assign [.Name x pos'] e pos) (wAsg i w) := ss_tAsg (ps_set hN hi hx he hs hf) hk sub
theorem ss_setO {i : Nat} {x : Str} {pos' : Pos} (hN : X.N.Nodup) (hi : X.N[i]? = some x) (hx : Loc X.env.scope x) (he : SE X κ Me .nw e w) (hk : kindOf κ i = .o) (hs : swapsWith e (some (.Name x pos')) pos.line X.env = pure false := by rfl) (hm : i ∈ M := by decide) (sub : ∀ i ∈ Me, i ∈ M := by decide)
    (hf : X.fn x = true ∨ X.env.scope.names.lookup x = some .local := by first | exact .inl rfl | exact .inr rfl | assumption) : SS X κ M k (.Assign [.Name x pos'] e pos) (wAsg i w) := ss_tAsgO (ps_set hN hi hx he hs hf) hk hm sub
theorem ss_setF {i : Nat} {x : Str} {pos' : Pos} (hN : X.N.Nodup) (hi : X.N[i]? = some x) (hx : Loc X.env.scope x) (he : SE X κ Me .nw e w) (hk : kindOf κ i = .f) (hs : swapsWith e (some (.Name x pos')) pos.line X.env = pure false := by rfl) (hm : i ∈ M := by decide) (sub : ∀ i ∈ Me, i ∈ M := by decide)
    (hf : X.fn x = true ∨ X.env.scope.names.lookup x = some .local := by first | exact .inl rfl | exact .inr rfl | assumption) : SS X κ M k (.Assign [.Name x pos'] e pos) (wAsg i w) := ss_tAsgF (ps_set hN hi hx he hs hf) hk hm sub
theorem ss_setP {i : Nat} {x : Str} {pos' : Pos} (hN : X.N.Nodup) (hi : X.N[i]? = some x) (hx : Loc X.env.scope x) (he : SE X κ Me .nw e w) (hk : kindOf κ i = .p) (hs : swapsWith e (some (.Name x pos')) pos.line X.env = pure false := by rfl) (sub : ∀ i ∈ Me, i ∈ M := by decide)
    (hf : X.fn x = true ∨ X.env.scope.names.lookup x = some .local := by first | exact .inl rfl | exact .inr rfl | assumption) : SS X κ M k (.Assign [.Name x pos'] e pos) (wAsgP i w) := ss_tAsgP (ps_set hN hi hx he hs hf) hk sub
/-- the thing of slot i is written anew -/
theorem Frm.put {K : PySem.W.Frag} {g : Rg} {env : En} {σ : St} {H : Hp} {i : Nat} {a : Addr} {d : D} {o : HO} (F : Frm K κ g env σ H) (hk : kindOf κ i = .o ∨ kindOf κ i = .q) (ea : g.al i = some a) (es : σ[i]? = some (some (.ref a))) (mt : ∀ xs, H a ≠ some (.tup xs))
    (r : Obj1 K (upd H a o) g.own a d) : Frm K κ g (env.set i (some d)) σ (upd H a o) := by
  have off : ∀ b x, ¬ g.own b → H b = some x → (upd H a o) b = some x := fun b x n e => by
    rw [upd_ne (fun z => n (by rw [z]; exact .inr ⟨i, ea⟩))]; exact e
  have nO := (F.alo i a ea).1
  have oth : ∀ b x, b ≠ a → H b = some x → (upd H a o) b = some x := fun b x n e => by rw [upd_ne n]; exact e
  have th : ∀ b, Tk H b → Tk (upd H a o) b := fun b n => by
    by_cases h : b = a
    · subst h; exact r.tk
    · exact n.of fun o e => by rw [upd_ne h]; exact e
  refine ⟨by simp [F.ln], F.sl, fun j d' e => ?_, F.inj, fun j b e => ⟨(F.alo' j b e).1, th b (F.alo' j b e).2⟩, fun b q => th b (F.ot' b q), F.il, fun b q => ⟨(F.pl b q).1, ?_⟩⟩
  · by_cases hj : i = j
    · subst hj
      have hi : i < env.length := by
        apply Classical.byContradiction
        intro c
        rw [List.getElem?_eq_none (by simpa using c)] at e; cases e
      rw [List.getElem?_set_self hi] at e
      cases e
      refine ⟨.ref a, es, ?_⟩
      rcases hk with hk | hk <;> rw [hk] <;> exact ⟨a, rfl, ea, r⟩
    · rw [List.getElem?_set_ne hj] at e
      obtain ⟨v, e1, s⟩ := F.ev j d' e
      refine ⟨v, e1, ?_⟩
      have own : ∀ b, g.own b → g.own b ∨ H b = none := fun _ q => .inl q
      have nal : ∀ b, g.al j = some b → b ≠ a := fun b e z => hj (F.inj i j a ea (by rw [← z]; exact e))
      cases hkj : kindOf κ j <;> rw [hkj] at s <;> unfold SlotK at s ⊢ <;> simp only at s ⊢
      · exact s
      · exact Rep.keep off own s
      · rcases s with s | ⟨b, rfl, np, na, s⟩
        · exact .inl (Rep.keep off own s)
        · exact .inr ⟨b, rfl, np, na, s.keep (fun x q => oth b x (fun z => nO (by rw [← z]; exact F.il b na)) q) off own⟩
      · obtain ⟨b, rfl, eb, s⟩ := s
        exact ⟨b, rfl, eb, s.keep (fun x q => oth b x (nal b eb) q) off own⟩
      · obtain ⟨b, rfl, eb, s⟩ := s
        exact ⟨b, rfl, eb, s.keep (fun x q => oth b x (nal b eb) q) off own⟩
      · obtain ⟨b, rfl, eb, s⟩ := s
        exact ⟨b, rfl, eb, s.keep (fun x q => oth b x (nal b eb) q) off own⟩
      · exact s
      · rcases s with ⟨b, rfl, eb, s⟩ | ⟨d', e', s⟩
        · exact .inl ⟨b, rfl, eb, s.keep (fun x q => oth b x (nal b eb) q) off own⟩
        · exact .inr ⟨d', e', Rep.keep off own s⟩
  · obtain ⟨x, y, z, e⟩ := (F.pl b q).2
    exact ⟨x, y, z, oth b _ (fun z => nO (by rw [← z]; exact (F.pl b q).1)) e⟩
theorem EStep.put {g : Rg} {K : PySem.W.Frag} {env : En} {σ : St} {H : Hp} {i : Nat} {a : Addr} {o : HO} (F : Frm K κ g env σ H) (ea : g.al i = some a) (hi : i ∈ M) : EStep M g g H (upd H a o) := by
  refine ⟨rfl, rfl, rfl, fun _ q => q, fun _ q => .inl q, fun b x e p q => by rw [upd_ne (fun z => q i hi (by rw [z]; exact ea))]; exact e, fun b p ⟨x, y, z, e⟩ => ⟨x, y, z, ?_⟩⟩
  rw [upd_ne (fun z => (F.alo i a ea).1 (by rw [← z]; exact (F.pl b p).1))]; exact e
/-- what a method of a list does, by values and over data; z is told for good -/
def MtD (K : PySem.W.Frag) (r : V → List V → Hp → VK → Prop) (f : List D → List D → Option (D × List D)) (ks : List RK) : Prop := ∀ (κ : List SK) (g : Rg) (env : En) (σ : St) (H0 H : Hp) (a : Addr) (xs : List V) (dxs ds dxs' : List D) (vs : List V) (z : D) (Q : VK),
  Frm K κ g env σ H → g.own a → H a = some (.lst xs) → xs.length ≤ sizeLine → RepAll K H g.own xs dxs → ResA K g H0 H ks vs ds → f dxs ds = some (z, dxs') →
  (∀ v xs', RepAll K H g.own xs' dxs' → xs'.length ≤ sizeLine → Rep K H g.own v z → Q v (upd H a (.lst xs'))) → r (.ref a) vs H Q
theorem mut_go {i : Nat} {Ma : List Nat} {ks : List RK} {wl : WA} {T : String} {r : V → List V → Hp → VK → Prop} {f : List D → List D → Option (D × List D)} (hf : MtD X.K r f ks) (hk : kindOf κ i = .o ∨ kindOf κ i = .q) (hi : i ∈ M) (subA : ∀ i ∈ Ma, i ∈ M) (hT : T = "list") (σ : St) (H : Hp) (Q : VK)
    (h : cE X.K κ M .fz (wMut i f wl) σ H Q) : tBM X.K T r (tVar i) (cA X.K κ Ma ks wl) σ H Q := by
  subst hT
  obtain ⟨g, env, W, F, hw, post⟩ := h
  unfold tBM tVar
  obtain ⟨⟨xs0, e0⟩, hw⟩ := hw
  obtain ⟨v0, sv, sl⟩ := F.ev i _ e0
  have sl' : ∃ a, v0 = .ref a ∧ g.al i = some a ∧ Obj1 X.K H g.own a (.list xs0) := by rcases hk with hk | hk <;> rw [hk] at sl <;> exact sl
  obtain ⟨a, rfl, ea, ob⟩ := sl'
  refine ⟨_, sv, ?_, g, env, _, F, hw, fun vs H1 g1 e1 ds F1 s1 r1 w1 => ?_⟩
  · cases ob with | lst q z al => exact .inl ⟨rfl, _, .inl (.inl q)⟩
  · obtain ⟨dxs, z, dxs', e2, ef, w1⟩ := w1
    obtain ⟨v1, sv1, sl1⟩ := F1.ev i _ e2
    rw [sv] at sv1; cases sv1
    have sl1' : ∃ a', V.ref a = .ref a' ∧ g1.al i = some a' ∧ Obj1 X.K H1 g1.own a' (.list dxs) := by rcases hk with hk | hk <;> rw [hk] at sl1 <;> exact sl1
    obtain ⟨a', ee, ea1, ob1⟩ := sl1'
    cases ee
    cases ob1 with
    | lst q zl al =>
      refine hf κ g1 e1 σ H H1 a _ dxs ds dxs' vs z Q F1 (.inr ⟨i, ea1⟩) q zl al r1 ef fun v xs' al' zl' rz => ?_
      have off : ∀ b x, ¬ g1.own b → H1 b = some x → (upd H1 a (.lst xs')) b = some x := fun b x n e => by
        rw [upd_ne (fun z => n (by rw [z]; exact .inr ⟨i, ea1⟩))]; exact e
      exact post v _ g1 _ z (F1.put hk ea1 sv (fun ys z => by rw [q] at z; cases z) (.lst upd_same zl' (al'.keep off fun _ q => .inl q))) ((s1.mono subA).tr (.put F1 ea1 hi) F F1) (Rep.keep off (fun _ q => .inl q) rz) w1
theorem se_mut {i : Nat} {Ma : List Nat} {x name : Str} {id : String} {ks : List RK} {wl : WA} {r : V → List V → Hp → VK → Prop} {f : List D → List D → Option (D × List D)} {px apos cpos : Pos} {es : List Expr} (slot : Slot "list" name id) (hty : typeOf (.builtin id) = pure (.type "method_descriptor")) (hm : MtR X id r) (hf : MtD X.K r f ks)
    (ho : PE X (.Name x px) (tVar i)) (ha : SA X κ Ma ks (e :: es) wl) (hk : kindOf κ i = .o ∨ kindOf κ i = .q) (hi : i ∈ M := by decide) (subA : ∀ i ∈ Ma, i ∈ M := by decide) (hbase : attributeBase (.Name x px) name X.env (eval (.Name x px) X.env) = eval (.Name x px) X.env := by rfl)
    (hfew : ((backTo cpos (starEach (e :: es) X.env)).all (fun x => !x.1) && (backToKw cpos (keywordEach [] X.env)).all (fun x => x.1.isSome)
      && decide ((e :: es).length + ([] : List Keyword).length + (if ([] : List Keyword).isEmpty then 0 else 1) < 30)) = true := by rfl)
    (hline : (apos.endLine == cpos.line) = true := by rfl) (hs : starEach (e :: es) X.env = (false, eval e X.env) :: starEach es X.env := by rfl) (hplain : (backTo cpos (starEach es X.env)).any (·.1) = false := by rfl) :
    SE X κ M .fz (.Call (.Attribute (.Name x px) name apos) (e :: es) [] cpos) (wMut i f wl) :=
  SE.of (pe_bm PySem.F.plainAttrs_list slot hty hm ho ha hbase hfew hline hs hplain) (mut_go hf hk hi subA rfl)
/-- xs[i] = v, an own list -/
theorem ss_setix {i : Nat} {x : Str} {px spos : Pos} {ix : Expr} {kx : RK} {wx : WE} (ho : PE X (.Name x px) (tVar i)) (hv : SE X κ Me .fz e w) (hx : SE X κ Me kx ix wx) (hk : kindOf κ i = .o ∨ kindOf κ i = .q) (px' : kx.rdable = true := by rfl) (hi : i ∈ M := by decide) (sub : ∀ i ∈ Me, i ∈ M := by decide)
    (ha : ∀ v, assign (.Subscript (.Name x px) ix spos) X.env v = (do
      let ov ← holding [v] (eval (.Name x px) X.env)
      let iv ← holding [v, ov] (eval ix X.env)
      standAt spos
      holding [v, ov, iv] (setItem ov iv v)
      release [v, ov, iv] []) := by intro _; rfl) (hs : swapsWithSole [.Subscript (.Name x px) ix spos] e pos.line X.env = pure false := by rfl) (hw : swappedStores [.Subscript (.Name x px) ix spos] e X.env = pure none := by rfl)
    (h1 : (assignEach [.Subscript (.Name x px) ix spos] X.env).map (·.2) = [assign (.Subscript (.Name x px) ix spos) X.env] := by rfl) : SS X κ M k (.Assign [.Subscript (.Name x px) ix spos] e pos) (wSetIx i w wx) :=
  SS.of (ps_asg hv (pg_sub ho hx set_list ha) hs hw h1) fun D σ H ⟨g, env, W, F, hw, n, b, c, r⟩ => ⟨g, env, _, F, hw, fun v H1 g1 e1 d F1 s1 r1 ⟨⟨xs0, e0⟩, w1⟩ => by
    obtain ⟨v0, sv, sl⟩ := F1.ev i _ e0
    have sl' : ∃ a, v0 = .ref a ∧ g1.al i = some a ∧ Obj1 X.K H1 g1.own a (.list xs0) := by rcases hk with hk | hk <;> rw [hk] at sl <;> exact sl
    obtain ⟨a, rfl, ea, ob⟩ := sl'
    refine ⟨_, sv, g1, e1, _, F1, w1, fun y H2 g2 e2 d2 F2 s2 r2 ⟨kk, xs, m, ed, e3, em, w2⟩ => ?_⟩
    subst ed
    have ey : y = .int kk := by
      rcases r2.rdb px' with q | ⟨a, _, q⟩
      · exact q.toInt
      · cases q
    subst ey
    obtain ⟨v1, sv1, sl1⟩ := F2.ev i _ e3
    rw [sv] at sv1; cases sv1
    have sl1' : ∃ a', V.ref a = .ref a' ∧ g2.al i = some a' ∧ Obj1 X.K H2 g2.own a' (.list xs) := by rcases hk with hk | hk <;> rw [hk] at sl1 <;> exact sl1
    obtain ⟨a', ee, ea1, ob1⟩ := sl1'
    cases ee
    have rv : Rep X.K H2 g2.own v d := Res.step (k := .fz) (H0 := H) r1 s2 F1 rfl
    cases ob1 with
    | @lst ws _ q zl al =>
      refine ⟨a, _, kk, m, rfl, rfl, q, by rw [al.length]; exact em, ?_⟩
      have off : ∀ b x, ¬ g2.own b → H2 b = some x → (upd H2 a (.lst (List.set ws m v))) b = some x := fun b x n e => by
        rw [upd_ne (fun z => n (by rw [z]; exact .inr ⟨i, ea1⟩))]; exact e
      have F3 := F2.put (d := .list (xs.set m d)) (o := .lst (List.set ws m v)) hk ea1 sv (fun ys z => by rw [q] at z; cases z) (.lst upd_same (by simpa using zl) ((RepAll.set rv m al).keep off fun _ q => .inl q))
      have s12 := ((s1.tr s2 F F1).mono sub).tr (.put (o := .lst (List.set ws m v)) F2 ea1 hi) F F2
      exact n g2 _ σ _ F3 (s12.toS F F3) w2⟩
theorem ss_while {c : Expr} {body : List Stmt} {wt : WT} (hp : PassesOwn (model X.prog X.w) X.A X.env X.xe) (hc : ST X κ Me c wt) (hb : SSs X κ M k body s) (sub : ∀ i ∈ Me, i ∈ M := by decide) : SS X κ M k (.While c body [] pos) (wWhile wt s) :=
  SS.of (ps_while hp hc hb) fun D σ H ⟨g, env, W, F, ⟨m0, hw⟩, n, b, c, r⟩ => by
    refine ⟨fun m σ' H' => ∃ g' env', Frm X.K κ g' env' σ' H' ∧ SStep κ M g g' H H' ∧ whileN wt s W m env', ⟨m0, g, env, F, .refl F, hw⟩, ?_⟩
    rintro m σ1 H1 ⟨g1, e1, F1, s1, w1⟩
    cases m with
    | zero => exact w1.elim
    | succ m =>
      refine ⟨g1, e1, _, F1, w1, fun x H2 g2 e2 F2 s2 w2 => ?_⟩
      have s12 := s1.trans ((s2.mono sub).toS F1 F2)
      cases x with
      | false => exact n g2 e2 σ1 H2 F2 s12 w2
      | true =>
        refine ⟨fun σ' H' => ∃ g' env', Frm X.K κ g' env' σ' H' ∧ SStep κ M g g' H H' ∧ whileN wt s W m env', fun σ' H' q => ⟨m, Nat.lt_succ_self m, q⟩, ?_⟩
        refine ⟨g2, e2, _, F2, w2, fun g' env' σ' H' F' s' q => ⟨g', env', F', s12.trans s', q⟩, fun g' env' σ' H' F' s' q => n g' env' σ' H' F' (s12.trans s') q, fun g' env' σ' H' F' s' q => ⟨g', env', F', s12.trans s', q⟩, fun g' env' σ' H' v d F' s' rr q => r g' env' σ' H' v d F' (s12.trans s') (rr.back s12) q⟩
end
end G7

set_option maxRecDepth 100000
namespace G7
open PySem PySem.Spec PyProof.Rows L2

/-- the walk's items, as long as the sources L stand -/
structure Walk (K : PySem.W.Frag) (J : It) (tb : Bool) (xs : List D) (L : Rg → Hp → Prop) : Prop where
  go : ∀ g H i, L g H → (∀ a, g.own a → H a ≠ none) → i < xs.length → J.go i H
  yd : ∀ g H i v H', L g H → (∀ a, g.own a → H a ≠ none) → i < xs.length → J.yld i H v H' → (∀ b o, H b = some o → H' b = some o) ∧ ∃ x, xs[i]? = some x ∧ RepI K H' g.own tb v x
  stop : ∀ g H, L g H → J.stop xs.length H
  lenL : ∀ g H, L g H → xs.length ≤ sizeLine
def Holds (κ : List SK) (N : List Nat) (L : Rg → Hp → Prop) : Prop := ∀ (K : PySem.W.Frag) M g g' env env' σ σ' H H', (∀ i ∈ M, i ∉ N) → Frm K κ g env σ H → Frm K κ g' env' σ' H' → SStep κ M g g' H H' → L g H → L g' H'
def cI (K : PySem.W.Frag) (κ : List SK) (M N : List Nat) (tb : Bool) (w : WI) : TI := fun σ H R => ∃ g env W, Frm K κ g env σ H ∧ w env W ∧
  ∀ J H' g' env' xs L, Frm K κ g' env' σ H' → EStep M g g' H H' → L g' H' → Holds κ N L → Walk K J tb xs L → W xs env' → R J H'
def SI (X : Cx) (κ : List SK) (M N : List Nat) (tg iter : Expr) (w : WI) : Prop := PI X tg iter (cI X.K κ M N (isTupE tg) w)
theorem SI.of {X : Cx} {κ : List SK} {M N : List Nat} {tg iter : Expr} {w : WI} {t : TI} (h : PI X tg iter t) (i : ∀ σ H R, cI X.K κ M N (isTupE tg) w σ H R → t σ H R) : SI X κ M N tg iter w := ⟨fun pins s σ H R I q => h.run pins s σ H R I (i σ H R q)⟩

section
variable {X : Cx} {κ : List SK} {M Me Mt N : List Nat} {k : RK} {e tg iter : Expr} {w : WE} {s : WS} {wi : WI} {f : WG} {ts : List Nat} {pos : Pos}
theorem ss_for {body : List Stmt} (hp : PassesOwn (model X.prog X.w) X.A X.env X.xe) (hc : X.calm = true) (hi : SI X κ Me N tg iter wi) (hg : SG X κ ts tg f) (hb : SSs X κ M k body s) (dis : ∀ i ∈ M, i ∉ N := by decide) (sub : ∀ i ∈ Me, i ∈ M := by decide)
    (hs : ∀ x, foldedSetIterable iter X.env x = pure x := by intro _; rfl) : SS X κ M k (.For tg iter body [] pos) (wFor wi f s) :=
  SS.of (ps_for hp hc hi hg hb hs) fun D σ H ⟨g, env, W, F, hw, n, b, c, r⟩ => ⟨g, env, _, F, hw, fun J H1 g1 e1 xs L F1 s1 L1 hL wk w1 => by
    have s1' := (s1.mono sub).toS F F1
    refine ⟨fun i m σ' H' => m = xs.length - i ∧ i ≤ xs.length ∧ ∃ g' env', Frm X.K κ g' env' σ' H' ∧ SStep κ M g1 g' H1 H' ∧ forL f s W (xs.drop i) env', ⟨xs.length, by simp, Nat.zero_le _, g1, e1, F1, .refl F1, by simpa using w1⟩, ?_⟩
    rintro i m σ2 H2 ⟨rfl, hi2, g2, e2, F2, s2, w2⟩
    have L2 := hL X.K M g1 g2 e1 e2 σ σ2 H1 H2 dis F1 F2 s2 L1
    by_cases hlt : i < xs.length
    · refine .inr ⟨wk.go g2 H2 i L2 (fun a => F2.own_ne) hlt, fun σ' H' => i < xs.length ∧ ∃ g' env', Frm X.K κ g' env' σ' H' ∧ SStep κ M g1 g' H1 H' ∧ forL f s W (xs.drop (i + 1)) env', fun σ' H' q => ⟨xs.length - (i + 1), by omega, rfl, by omega, q.2⟩, fun v H3 y => ?_⟩
      obtain ⟨kp, x, ex, rx⟩ := wk.yd g2 H2 i v H3 L2 (fun a => F2.own_ne) hlt y
      have F3 : Frm X.K κ g2 e2 σ2 H3 := F2.same kp
      have s3 : SStep κ M g1 g2 H1 H3 := s2.trans ((EStep.same (M := M) (g := g2) kp).toS F2 F3)
      have ed : xs.drop i = x :: xs.drop (i + 1) := by
        rw [List.drop_eq_getElem_cons hlt]
        rw [List.getElem?_eq_getElem hlt] at ex
        cases ex; rfl
      rw [ed] at w2
      obtain ⟨e3, ee, w3⟩ := w2
      refine ⟨g2, e2, x, e3, F3, rx, ee, fun σ4 F4 _ => ?_⟩
      have s4 : SStep κ M g1 g2 H1 H3 := s3
      refine ⟨g2, e3, _, F4, w3, fun g' env' σ' H' F' s' q => ⟨hlt, g', env', F', s4.trans s', q⟩, fun g' env' σ' H' F' s' q => n g' env' σ' H' F' (s1'.trans (s4.trans s')) q, fun g' env' σ' H' F' s' q => ⟨hlt, g', env', F', s4.trans s', q⟩,
        fun g' env' σ' H' v d F' s' rr q => r g' env' σ' H' v d F' (s1'.trans (s4.trans s')) ((rr.back s4).back s1') q⟩
    · have e : i = xs.length := by omega
      subst e
      rw [List.drop_length] at w2
      exact .inl ⟨wk.stop g2 H2 L2, n g2 e2 σ2 H2 F2 (s1'.trans s2) w2⟩⟩
theorem wp_len (e : En) : ∀ vs : List Nat, (wp e vs).length = e.length
  | [] => rfl
  | v :: vs => by unfold wp; rw [List.length_set, wp_len e vs]
theorem back_len (e e2 : En) : ∀ vs : List Nat, (back e e2 vs).length = e2.length
  | [] => rfl
  | v :: vs => by unfold back; rw [List.length_set, back_len e e2 vs]
theorem wp_get {e : En} {i : Nat} {d : D} : ∀ {vs : List Nat}, (wp e vs)[i]? = some (some d) → e[i]? = some (some d) ∧ i ∉ vs
  | [], h => ⟨h, by simp⟩
  | v :: vs, h => by
    unfold wp at h
    by_cases hi : v = i
    · subst hi
      by_cases hv : v < (wp e vs).length
      · rw [List.getElem?_set_self hv] at h; cases h
      · rw [List.getElem?_eq_none (by simpa using hv)] at h; cases h
    · rw [List.getElem?_set_ne hi] at h
      obtain ⟨h1, h2⟩ := wp_get h
      exact ⟨h1, by simp only [List.mem_cons, not_or]; exact ⟨fun z => hi z.symm, h2⟩⟩
theorem back_get {e e2 : En} {i : Nat} {d : D} : ∀ {vs : List Nat}, (back e e2 vs)[i]? = some (some d) → (i ∈ vs ∧ e[i]? = some (some d)) ∨ (i ∉ vs ∧ e2[i]? = some (some d))
  | [], h => .inr ⟨by simp, h⟩
  | v :: vs, h => by
    unfold back at h
    by_cases hi : v = i
    · subst hi
      by_cases hv : v < (back e e2 vs).length
      · rw [List.getElem?_set_self hv] at h
        left
        refine ⟨by simp, ?_⟩
        have h' : (e[v]?).getD none = some d := Option.some.inj h
        cases q : e[v]? with
        | none => rw [q] at h'; cases h'
        | some x => rw [q] at h'; simp at h'; rw [h']
      · rw [List.getElem?_eq_none (by simpa using hv)] at h; cases h
    · rw [List.getElem?_set_ne hi] at h
      rcases back_get h with ⟨h1, h2⟩ | ⟨h1, h2⟩
      · exact .inl ⟨by simp [h1], h2⟩
      · exact .inr ⟨by simp only [List.mem_cons, not_or]; exact ⟨fun z => hi z.symm, h1⟩, h2⟩
theorem wipe_get {σ : St} {i : Nat} : ∀ {vs : List Nat}, i ∉ vs → (wipe σ vs)[i]? = σ[i]?
  | [], _ => rfl
  | v :: vs, h => by
    simp only [List.mem_cons, not_or] at h
    unfold wipe
    rw [List.getElem?_set_ne (fun z => h.1 z.symm)]
    exact wipe_get h.2
theorem Frm.wp {K : PySem.W.Frag} {g : Rg} {env : En} {σ : St} {H : Hp} (F : Frm K κ g env σ H) (vs : List Nat) : Frm K κ g (G7.wp env vs) (wipe σ vs) H :=
  ⟨by rw [wp_len]; exact F.ln, by rw [wipe_length]; exact F.sl, fun i d e => by
    obtain ⟨e1, n⟩ := wp_get e
    obtain ⟨v, e2, s⟩ := F.ev i d e1
    exact ⟨v, by rw [wipe_get n]; exact e2, s⟩, F.inj, F.alo', F.ot', F.il, F.pl⟩
theorem Frm.back {K : PySem.W.Frag} {g g1 : Rg} {e1 e2 : En} {σ : St} {H H1 : Hp} {vs : List Nat} (F1 : Frm K κ g1 e1 σ H1) (s : EStep M g1 g H1 H) (F : Frm K κ g e2 (wipe σ vs) H) (hv : ∀ i ∈ vs, kindOf κ i = .v) : Frm K κ g (G7.back e1 e2 vs) σ H :=
  ⟨by rw [back_len]; exact F.ln, F1.sl, fun i d e => by
    rcases back_get e with ⟨hi, e1⟩ | ⟨hi, e1⟩
    · obtain ⟨v, e2, sl⟩ := F1.ev i d e1
      rw [hv i hi] at sl ⊢
      exact ⟨v, e2, Rep.keep (s.off F1) s.own sl⟩
    · obtain ⟨v, e2, sl⟩ := F.ev i d e1
      rw [wipe_get hi] at e2
      exact ⟨v, e2, sl⟩, F.inj, F.alo', F.ot', F.il, F.pl⟩
theorem wipe_off {σ σ' : St} : ∀ {vs : List Nat}, Off vs (wipe σ vs) σ' → wipe σ' vs = wipe σ vs := fun {vs} ⟨hl, h⟩ => by
  apply List.ext_getElem?
  intro i
  by_cases hi : i ∈ vs
  · have z : ∀ (τ : St) (us : List Nat), i ∈ us → i < τ.length → (wipe τ us)[i]? = some none := by
      intro τ us
      induction us with
      | nil => intro h; simp at h
      | cons u us ih =>
        intro h hl
        unfold wipe
        by_cases hu : u = i
        · subst hu; rw [List.getElem?_set_self (by rw [wipe_length]; exact hl)]
        · rw [List.getElem?_set_ne hu]
          exact ih ((List.mem_cons.mp h).resolve_left fun z => hu z.symm) hl
    have hl' : σ'.length = σ.length := by rw [hl, wipe_length]
    by_cases hb : i < σ.length
    · rw [z σ' vs hi (by omega), z σ vs hi hb]
    · rw [List.getElem?_eq_none (by rw [wipe_length]; omega), List.getElem?_eq_none (by rw [wipe_length]; omega)]
  · rw [wipe_get hi, h i hi]
theorem Off.mono {ts us : List Nat} {σ σ' : St} (h : Off ts σ σ') (s : ∀ i ∈ ts, i ∈ us) : Off us σ σ' := ⟨h.1, fun j hj => h.2 j fun z => hj (s j z)⟩
theorem Frm.upd {K : PySem.W.Frag} {g : Rg} {env : En} {σ : St} {H : Hp} {a : Addr} {o : HO} (F : Frm K κ g env σ H) (hO : g.O a) (hP : ¬ g.P a) (hI : ¬ g.I a) (ht : ∀ xs, o ≠ .tup xs := by intro _ h; cases h) : Frm K κ g env σ (upd H a o) := by
  have off : ∀ b x, ¬ g.own b → H b = some x → (L2.upd H a o) b = some x := fun b x n e => by
    rw [upd_ne (fun z => n (by rw [z]; exact .inl hO))]; exact e
  have oth : ∀ b x, b ≠ a → H b = some x → (L2.upd H a o) b = some x := fun b x n e => by rw [upd_ne n]; exact e
  have th : ∀ b, Tk H b → Tk (L2.upd H a o) b := fun b n => by
    by_cases h : b = a
    · subst h; exact ⟨by rw [upd_same]; simp, fun xs z => by rw [upd_same] at z; exact ht xs (Option.some.inj z)⟩
    · exact n.of fun o e => by rw [upd_ne h]; exact e
  have own : ∀ b, g.own b → g.own b ∨ H b = none := fun _ q => .inl q
  refine ⟨F.ln, F.sl, fun j d' e => ?_, F.inj, fun j b e => ⟨(F.alo' j b e).1, th b (F.alo' j b e).2⟩, fun b q => th b (F.ot' b q), F.il, fun b q => ⟨(F.pl b q).1, ?_⟩⟩
  · obtain ⟨v, e1, s⟩ := F.ev j d' e
    refine ⟨v, e1, ?_⟩
    have nal : ∀ b, g.al j = some b → b ≠ a := fun b e z => (F.alo j b e).1 (by rw [z]; exact hO)
    cases hkj : kindOf κ j <;> rw [hkj] at s <;> unfold SlotK at s ⊢ <;> simp only at s ⊢
    · exact s
    · exact Rep.keep off own s
    · rcases s with s | ⟨b, rfl, np, na, s⟩
      · exact .inl (Rep.keep off own s)
      · exact .inr ⟨b, rfl, np, na, s.keep (fun x q => oth b x (fun z => hI (by rw [← z]; exact na)) q) off own⟩
    · obtain ⟨b, rfl, eb, s⟩ := s
      exact ⟨b, rfl, eb, s.keep (fun x q => oth b x (nal b eb) q) off own⟩
    · obtain ⟨b, rfl, eb, s⟩ := s
      exact ⟨b, rfl, eb, s.keep (fun x q => oth b x (nal b eb) q) off own⟩
    · obtain ⟨b, rfl, eb, s⟩ := s
      exact ⟨b, rfl, eb, s.keep (fun x q => oth b x (nal b eb) q) off own⟩
    · exact s
    · rcases s with ⟨b, rfl, eb, s⟩ | ⟨d', e', s⟩
      · exact .inl ⟨b, rfl, eb, s.keep (fun x q => oth b x (nal b eb) q) off own⟩
      · exact .inr ⟨d', e', Rep.keep off own s⟩
  · obtain ⟨x, y, z, e⟩ := (F.pl b q).2
    exact ⟨x, y, z, oth b _ (fun z => hP (by rw [← z]; exact q)) e⟩
theorem comp_go {K : PySem.W.Frag} {tb : Bool} {vs : List Nat} {t : WT} (hv : ∀ i ∈ vs, kindOf κ i = .v) (hts : ∀ i ∈ ts, i ∈ vs) (dis : ∀ i ∈ M, i ∉ N) (σ : St) (H : Hp) (Q : VK)
    (h : cE K κ M .nw (wComp wi f vs t w) σ H Q) : tLc (cI K κ M N tb wi) (cG K κ ts tb f) (cT K κ M t) (cE K κ M .fz w) vs σ H Q := by
  obtain ⟨g, env, W, F, hw, post⟩ := h
  refine ⟨g, env, _, F, hw, fun J H1 g1 e1 xs L F1 s1 L1 hL wk w1 Da hD => ?_⟩
  have FD := F1.new (o := HO.lst []) hD
  have sD : EStep M g1 (g1.add Da) H1 (upd H1 Da (.lst [])) := .new hD
  have nDo : ¬ g1.own Da := fun q => F1.own_ne q hD
  refine ⟨fun i m H' => m = xs.length - i ∧ i ≤ xs.length ∧ ∃ g' env' acc das, Frm K κ g' env' (wipe σ vs) H' ∧ EStep M g1 g' H1 H' ∧ g'.O Da ∧ ¬ g'.P Da ∧ H' Da = some (.lst acc) ∧ acc.length ≤ i ∧ RepAll K H' g'.own acc das ∧
    compL f vs t w (fun acc e2 => W (.list acc) (G7.back e1 e2 vs)) (xs.drop i) das env', ⟨xs.length, by simp, Nat.zero_le _, g1.add Da, _, [], [], FD.wp vs, sD, .inr rfl, fun q => nDo (F1.p_own q), upd_same, Nat.le_refl _, .nil, by simpa using w1⟩, ?_⟩
  rintro i m H2 ⟨rfl, hi, g2, e2, acc, das, F2, s2, hO, hP, hA, hacc, ra, w2⟩
  have s2' : SStep κ M g1 g2 H1 H2 := s2.toS F1 F2
  have L2 := hL K M g1 g2 e1 e2 σ (wipe σ vs) H1 H2 dis F1 F2 s2' L1
  by_cases hlt : i < xs.length
  · refine .inr ⟨wk.go g2 H2 i L2 (fun a => F2.own_ne) hlt, fun H' => i < xs.length ∧ ∃ g' env' acc das, Frm K κ g' env' (wipe σ vs) H' ∧ EStep M g1 g' H1 H' ∧ g'.O Da ∧ ¬ g'.P Da ∧ H' Da = some (.lst acc) ∧ acc.length ≤ i + 1 ∧ RepAll K H' g'.own acc das ∧
      compL f vs t w (fun acc e2 => W (.list acc) (G7.back e1 e2 vs)) (xs.drop (i + 1)) das env', fun H' q => ⟨xs.length - (i + 1), by omega, rfl, by omega, q.2⟩, fun v H3 y => ?_⟩
    obtain ⟨kp, x, ex, rx⟩ := wk.yd g2 H2 i v H3 L2 (fun a => F2.own_ne) hlt y
    have F3 : Frm K κ g2 e2 (wipe σ vs) H3 := F2.same kp
    have s3 : EStep M g1 g2 H1 H3 := s2.tr (EStep.same kp) F1 F2
    have ed : xs.drop i = x :: xs.drop (i + 1) := by
      rw [List.drop_eq_getElem_cons hlt]
      rw [List.getElem?_eq_getElem hlt] at ex
      cases ex; rfl
    rw [ed] at w2
    obtain ⟨e3, ee, w3⟩ := w2
    refine ⟨g2, e2, x, e3, F3, rx, ee, fun σ4 F4 o4 => ⟨wipe_off (o4.mono hts), g2, e3, _, F4, w3, fun c H5 g5 e5 F5 s5 w5 => ?_⟩⟩
    have s15 : EStep M g1 g5 H1 H5 := s3.tr s5 F1 F3
    have hO5 := s5.up Da hO
    have hP5 : ¬ g5.P Da := by rw [s5.P]; exact hP
    have keepD : ∀ {Ha Hb : Hp} {ga gb : Rg} {ea : En} {σa : St}, Frm K κ ga ea σa Ha → EStep M ga gb Ha Hb → ga.O Da → ¬ ga.P Da → ∀ o, Ha Da = some o → Hb Da = some o := fun {Ha Hb ga gb ea σa} Fa sa ho hp o e => sa.keep Da o e hp fun j _ z => (Fa.alo j Da z).1 ho
    have hA5 : H5 Da = some (.lst acc) := keepD F3 s5 hO hP _ (kp _ _ hA)
    have ra5 : RepAll K H5 g5.own acc das := (ra.keep (fun a o _ e => kp a o e) fun _ q => .inl q).keep (s5.off F3) s5.own
    have ew : wipe σ4 vs = wipe σ vs := wipe_off (o4.mono hts)
    cases c with
    | false =>
      refine ⟨hlt, g5, _, acc, das, ?_, s15, hO5, hP5, hA5, by omega, ra5, w5⟩
      rw [← ew]; exact F5.wp vs
    | true =>
      refine ⟨g5, e5, _, F5, w5, fun u H6 g6 e6 d6 F6 s6 r6 w6 => ?_⟩
      have hO6 := s6.up Da hO5
      have hP6 : ¬ g6.P Da := by rw [s6.P]; exact hP5
      have hA6 : H6 Da = some (.lst acc) := keepD F5 s6 hO5 hP5 _ hA5
      have ra6 : RepAll K H6 g6.own acc das := ra5.keep (s6.off F5) s6.own
      have zx : xs.length ≤ sizeLine := wk.lenL g2 H2 L2
      refine ⟨acc, hA6, by omega, ?_⟩
      have nI : ¬ g6.I Da := fun z => by
        have z' : g1.I Da := by rw [← (s15.tr s6 F1 F5).I]; exact z
        exact F1.ot Da (F1.il Da z') hD
      have s16 := s15.tr s6 F1 F5
      have F7 : Frm K κ g6 (G7.wp e6 vs) (wipe σ vs) (upd H6 Da (.lst (acc ++ [u]))) := by
        rw [← ew]
        exact (F6.upd hO6 hP6 nI).wp vs
      have off : ∀ a o, ¬ g6.own a → H6 a = some o → (upd H6 Da (.lst (acc ++ [u]))) a = some o := fun a o n e => by rw [upd_ne (fun z => n (by rw [z]; exact .inl hO6))]; exact e
      refine ⟨hlt, g6, _, acc ++ [u], das ++ [d6], F7, ⟨s16.al, s16.P, s16.I, s16.up, s16.dn, fun b o e p q => ?_, fun b p q => ?_⟩, hO6, hP6, upd_same, by simp; omega, (ra6.append (.cons r6 .nil)).keep off fun _ q => .inl q, w6⟩
      · rw [upd_ne (ne_of_none e hD)]; exact s16.keep b o e p q
      · obtain ⟨x, y, z, e⟩ := s16.pool b p q
        exact ⟨x, y, z, by rw [upd_ne (fun z => hP6 (by rw [s16.P, ← z]; exact p))]; exact e⟩
  · have e : i = xs.length := by omega
    subst e
    rw [List.drop_length] at w2
    refine .inl ⟨wk.stop g2 H2 L2, ?_⟩
    have F5 := F1.back s2 F2 hv
    refine post (.ref Da) H2 g2 _ (.list das) F5 (s1.tr s2 F F1) ⟨Da, rfl, s1.there F F1 hD, hO, hP, .lst hA ?_ ra⟩ w2
    exact Nat.le_trans hacc (wk.lenL g2 H2 L2)
end
end G7

set_option maxRecDepth 100000
namespace G7
open PySem PySem.Spec PyProof.Rows L2

section
variable {K : PySem.W.Frag} {κ : List SK} {g : Rg} {env : En} {σ : St} {H : Hp} {S : Addr → Prop} {v : V} {p : Addr} {vs : List V} {ds : List D} {Q : VK}
theorem RdB.toInt {i : Int} (r : RdB K H S v (.int i)) : v = .int i := r.elim Rep.toInt fun ⟨_, _, q⟩ => by cases q
theorem RdB.toBl {i : Bool} (r : RdB K H S v (.bool i)) : v = .bl i := r.elim Rep.toBl fun ⟨_, _, q⟩ => by cases q
theorem RdB.toStr {i : Str} (r : RdB K H S v (.str i)) : v = .str i := r.elim Rep.toStr fun ⟨_, _, q⟩ => by cases q
theorem RdB.toLst (r : RdB K H S v (.list ds)) : ∃ a xs, v = .ref a ∧ Rd H a (.lst xs) ∧ xs.length ≤ sizeLine ∧ RepAll K H S xs ds := by
  rcases r with r | ⟨a, e, r⟩
  · cases r with | lst n q z al => exact ⟨_, _, rfl, .inl q, z, al⟩
  · cases r with | lst q z al => exact ⟨_, _, e, q, z, al⟩
theorem RdB.toTup (r : RdB K H S v (.tuple ds)) : ∃ a xs, v = .ref a ∧ ((¬ S a ∧ Rd H a (.tup xs)) ∨ KTup K a xs) ∧ xs.length ≤ sizeLine ∧ RepAll K H S xs ds := by
  rcases r with r | ⟨a, e, r⟩
  · exact r.toTup
  · cases r
theorem RdB.xtRep (r : RdB K H S v (xtD ds)) : Rep K H S v (xtD ds) := by
  rcases r with r | ⟨a, e, r⟩
  · exact r
  · exact r.noXt.elim
theorem RdB.toTupO {d : D} (h : tupOf d = some ds) (r : RdB K H S v d) : ∃ a xs, v = .ref a ∧ ((¬ S a ∧ Rd H a (.tup xs)) ∨ KTup K a xs) ∧ xs.length ≤ sizeLine ∧ RepAll K H S xs ds := by
  rcases tupOf_cases h with rfl | rfl
  · exact r.toTup
  · exact Rep.toTupO (d := xtD ds) rfl r.xtRep
theorem RdB.tupRep (r : RdB K H S v (.tuple ds)) : Rep K H S v (.tuple ds) := by
  rcases r with r | ⟨a, e, r⟩
  · exact r
  · cases r
theorem ok_lst (F : Frm K κ g env σ H) (al : RepAll K H g.own vs ds) (z : vs.length ≤ sizeLine) (np : H p = none) (h : ∀ v H' g', Frm K κ g' env σ H' → EStep [] g g' H H' → Res K g' .fz H H' v (.list ds) → Q v H') : Q (.ref p) (upd H p (.lst vs)) :=
  h _ _ g (F.new0 np) (.new0 np) (.lst (fun q => F.own_ne q np) upd_same z (al.keep (fun a o _ e => same_new np a o e) fun _ q => .inl q))
theorem ok_lstN (F : Frm K κ g env σ H) (al : RepAll K H g.own vs ds) (z : vs.length ≤ sizeLine) (np : H p = none) (h : ∀ v H' g', Frm K κ g' env σ H' → EStep [] g g' H H' → Res K g' .nw H H' v (.list ds) → Q v H') : Q (.ref p) (upd H p (.lst vs)) :=
  h _ _ (g.add p) (F.new np) (.new np) ⟨p, rfl, np, .inr rfl, fun q => F.own_ne (F.p_own q) np, .lst upd_same z (al.keep (fun a o _ e => same_new np a o e) fun a q => (Rg.add_own.mp q).imp id fun e => by rw [e]; exact np)⟩
theorem ok_tup (F : Frm K κ g env σ H) (al : RepAll K H g.own vs ds) (z : vs.length ≤ sizeLine) (np : H p = none) {o : HO} (m : MkT o vs) (h : ∀ v H' g', Frm K κ g' env σ H' → EStep [] g g' H H' → Res K g' .fz H H' v (.tuple ds) → Q v H') : Q (.ref p) (upd H p o) :=
  h _ _ g (F.new0 np) (.new0 np) (.tup (fun q => F.own_ne q np) (m.rdT al.length upd_same) z (al.keep (fun a o _ e => same_new np a o e) fun _ q => .inl q))
theorem ok_same {d : D} (F : Frm K κ g env σ H) (r : Rep K H g.own v d) (h : ∀ v H' g', Frm K κ g' env σ H' → EStep [] g g' H H' → Res K g' .fz H H' v d → Q v H') : Q v H := h v H g F .refl r
end
mutual
theorem Rep.dp {K : PySem.W.Frag} {H : Hp} {S : Addr → Prop} : ∀ {d : D} {v : V}, Rep K H S v d → d.canLay0 = true → Dp K H v d
  | _, _, .non, _ => .non
  | _, _, .bl b, _ => .bl b
  | _, _, .int i, _ => .int i
  | _, _, .str x, _ => .str x
  | _, _, .lst n r z al, h => .lst (.inl (.inl r)) (al.dp (by simpa [PyData.canLay0] using h))
  | _, _, .tup n r z al, h => .tup (sqT_of (.inl ⟨n, rdT_rd r⟩)) (al.dp (by simpa [PyData.canLay0] using h))
  | _, _, .dK n r al, h => by simp [PyData.canLay0] at h
  | _, _, .dT n r al, h => by simp [PyData.canLay0] at h
  | _, _, .xt n r e z al, h => by simp [PyData.canLay0] at h
theorem RepAll.dp {K : PySem.W.Frag} {H : Hp} {S : Addr → Prop} : ∀ {ds : List D} {vs : List V}, RepAll K H S vs ds → PyData.canLayAll0 ds = true → DpAll K H vs ds
  | _, _, .nil, _ => .nil
  | _, _, .cons r t, h => by
    simp only [PyData.canLayAll0, Bool.and_eq_true] at h
    exact .cons (r.dp h.1) (t.dp h.2)
end
theorem RdB.dp {K : PySem.W.Frag} {H : Hp} {S : Addr → Prop} {v : V} {d : D} (r : RdB K H S v d) (h : okD d = true) : Dp K H v d := by
  have hc : d.canLay0 = true := SeqAt.canLay_of_shaped h
  rcases r with r | ⟨a, rfl, r⟩
  · exact r.dp hc
  · cases r with
    | lst q z al => exact .lst (.inl q) (al.dp (by simpa [PyData.canLay0] using hc))
    | dK q al => simp [PyData.canLay0] at hc
    | dT q al => simp [PyData.canLay0] at hc
section
variable {X : Cx}
/-- + of lists that may be read -/
def rCatR : R2 := fun x y H Q => ∃ l b xs zs, x = .ref l ∧ y = .ref b ∧ Rd H l (.lst xs) ∧ Rd H b (.lst zs) ∧ xs.length + zs.length ≤ sizeLine ∧ ∀ p, H p = none → Q (.ref p) (upd H p (.lst (xs ++ zs)))
theorem op_catR : OpR X (binaryOp .Add) rCatR := by
  intro pins s σ H x y v u Q I rx ry h
  obtain ⟨l, b, xs, zs, rfl, rfl, hH, hB, hz, q⟩ := h
  cases rx
  cases ry
  obtain ⟨z, its, n, r, e⟩ := hH.ok I.hok
  obtain ⟨z2, its2, n2, r2, e2⟩ := hB.ok I.hok
  have h1 := r.length
  have h2 := r2.length
  refine PySem.P.add_list e e2 ?_ (by rw [List.size_toArray, List.size_toArray]; omega)
  have ea : its.toArray ++ its2.toArray = (its ++ its2).toArray := by simp
  rw [ea]
  exact ⟨.ref _, _, I.lnew (t' := s.toks) (r.append r2) (by rw [List.length_append]; omega), rfl, q _ I.fresh⟩
/-- t + u, as it is laid -/
def rCatM (K : PySem.W.Frag) : R2 := fun x y H Q => ∃ a b xs ys, x = .ref a ∧ y = .ref b ∧ SqT K H a xs ∧ SqT K H b ys ∧ xs.length + ys.length ≤ sizeLine ∧
  (xs = [] → Q (.ref b) H) ∧ (xs ≠ [] → ys = [] → Q (.ref a) H) ∧ (xs ≠ [] → ys ≠ [] → ∀ p o, H p = none → MkT o (xs ++ ys) → Q (.ref p) (upd H p o))
theorem op_catM : OpR X (binaryOp .Add) (rCatM X.K) := by
  intro pins s σ H x y v u Q I rx ry h
  obtain ⟨a, b, xs, ys, rfl, rfl, ha, hb, hz, q0, q1, q2⟩ := h
  by_cases hx : xs = []
  · subst hx
    exact op_catA pins s σ H _ _ v u Q I rx ry ⟨a, b, [], ys, rfl, rfl, ha, hb, hz, q0, fun c => absurd rfl c, fun c => absurd rfl c⟩
  · cases rx; cases ry
    obtain ⟨its, ra, pa, _⟩ := I.tuple ha
    obtain ⟨jts, rb, pb, _⟩ := I.tuple hb
    refine HT.cat_tup pa pb (fun c => hx (ra.nil_iff.mp c)) (fun c => ⟨.ref a, H, I, rfl, q1 hx (rb.nil_iff.mp c)⟩) (fun c => ?_) (by rw [← ra.length, ← rb.length]; exact hz)
    obtain ⟨o, m, J⟩ := mk_laid I (ra.append rb) (by rw [List.length_append]; exact hz) rfl
    exact ⟨.ref s.heap.objs.size, _, J, rfl, q2 hx (fun e => c (rb.nil_iff.mpr e)) _ o (I.hok.fresh (Nat.le_refl _)) m⟩
def rAddF (K : PySem.W.Frag) : R2 := fun x y H Q => rI0 (fun i j => .int (i + j)) x y H Q ∨ rCatR x y H Q ∨ rCatM K x y H Q
theorem op_addF : OpR X (binaryOp .Add) (rAddF X.K) := op_add.or (op_catR.or op_catM)
theorem od_add {K : PySem.W.Frag} : OpD K (rAddF K) addD .fz := by
  intro κ g env σ H x y dx dy dz Q F rx ry e h
  cases dx <;> cases dy <;> simp only [addD] at e <;> first
    | (cases e; rw [rx.toInt, ry.toInt]; exact .inl ⟨_, _, rfl, rfl, ok_same F (.int _) h⟩)
    | (split at e
       · rename_i hl
         cases e
         first
           | (obtain ⟨a, xs, rfl, ra, za, la⟩ := rx.toLst
              obtain ⟨b, ys, rfl, rb, zb, lb⟩ := ry.toLst
              have hz : xs.length + ys.length ≤ sizeLine := by rw [la.length, lb.length]; exact lim_line hl
              exact .inr (.inl ⟨a, b, xs, ys, rfl, rfl, ra, rb, hz, fun p np => ok_lst F (la.append lb) (by rw [List.length_append]; exact hz) np h⟩))
           | (have ta := rx.tupRep
              have tb := ry.tupRep
              obtain ⟨a, xs, rfl, ra, za, la⟩ := rx.toTup
              obtain ⟨b, ys, rfl, rb, zb, lb⟩ := ry.toTup
              have hz : xs.length + ys.length ≤ sizeLine := by rw [la.length, lb.length]; exact lim_line hl
              refine .inr (.inr ⟨a, b, xs, ys, rfl, rfl, sqT_of ra, sqT_of rb, hz, fun ex => ?_, fun _ ey => ?_, fun _ _ p o np m => ok_tup F (la.append lb) (by rw [List.length_append]; exact hz) np m h⟩)
              · subst ex; cases la; exact ok_same F tb h
              · subst ey; cases lb; simp only [List.append_nil] at h; exact ok_same F ta h)
       · cases e)
    | cases e
def addLD : D → D → Option D
  | .list a, .list b => if a.length + b.length ≤ lim then some (.list (a ++ b)) else none
  | _, _ => none
theorem od_addL {K : PySem.W.Frag} : OpD K rCatR addLD .nw := by
  intro κ g env σ H x y dx dy dz Q F rx ry e h
  cases dx <;> cases dy <;> simp only [addLD] at e <;> first
    | (split at e
       · rename_i hl
         cases e
         obtain ⟨a, xs, rfl, ra, za, la⟩ := rx.toLst
         obtain ⟨b, ys, rfl, rb, zb, lb⟩ := ry.toLst
         have hz : xs.length + ys.length ≤ sizeLine := by rw [la.length, lb.length]; exact lim_line hl
         exact ⟨a, b, xs, ys, rfl, rfl, ra, rb, hz, fun p np => ok_lstN F (la.append lb) (by rw [List.length_append]; exact hz) np h⟩
       · cases e)
    | cases e
theorem od_sub {K : PySem.W.Frag} : OpD K (rI0 fun i j => .int (i - j)) subD .fz := by
  intro κ g env σ H x y dx dy dz Q F rx ry e h
  cases dx <;> cases dy <;> simp only [subD] at e <;> first
    | (cases e; rw [rx.toInt, ry.toInt]; exact ⟨_, _, rfl, rfl, ok_same F (.int _) h⟩)
    | cases e
theorem od_fdiv {K : PySem.W.Frag} : OpD K (rI CDiv fun i j => .int (i / j)) fdivD .fz := by
  intro κ g env σ H x y dx dy dz Q F rx ry e h
  cases dx <;> cases dy <;> simp only [fdivD] at e <;> first
    | (split at e
       · rename_i hm
         cases e; rw [rx.toInt, ry.toInt]; exact ⟨_, _, rfl, rfl, hm, ok_same F (.int _) h⟩
       · cases e)
    | cases e
theorem od_mod {K : PySem.W.Frag} : OpD K (rI (fun _ j => 0 < j) fun i j => .int (i % j)) modD .fz := by
  intro κ g env σ H x y dx dy dz Q F rx ry e h
  cases dx <;> cases dy <;> simp only [modD] at e <;> first
    | (split at e
       · rename_i hm
         cases e; rw [rx.toInt, ry.toInt]; exact ⟨_, _, rfl, rfl, hm, ok_same F (.int _) h⟩
       · cases e)
    | cases e
theorem od_pow {K : PySem.W.Frag} : OpD K (rI CPow fun i j => .int (i ^ j.toNat)) powD .fz := by
  intro κ g env σ H x y dx dy dz Q F rx ry e h
  cases dx <;> cases dy <;> simp only [powD] at e <;> first
    | (split at e
       · rename_i hm
         cases e; rw [rx.toInt, ry.toInt]; exact ⟨_, _, rfl, rfl, hm, ok_same F (.int _) h⟩
       · cases e)
    | cases e
theorem o1_neg {K : PySem.W.Frag} : Op1 K (rU fun i => .int (-i)) negD .fz := by
  intro κ g env σ H x dx dz Q F rx e h
  cases dx <;> simp only [negD] at e <;> first
    | (cases e; rw [rx.toInt]; exact ⟨_, rfl, ok_same F (.int _) h⟩)
    | cases e
theorem od_icmp {K : PySem.W.Frag} (p : Int → Int → Bool) : OpD K (rI0 fun i j => .bl (p i j)) (icmp p) .fz := by
  intro κ g env σ H x y dx dy dz Q F rx ry e h
  cases dx <;> cases dy <;> simp only [icmp] at e <;> first
    | (cases e; rw [rx.toInt, ry.toInt]; exact ⟨_, _, rfl, rfl, ok_same F (.bl _) h⟩)
    | cases e
theorem od_le {K : PySem.W.Frag} : OpD K (rI0 fun i j => .bl (decide (i ≤ j))) leD .fz := od_icmp _
theorem od_gt {K : PySem.W.Frag} : OpD K (rI0 fun i j => .bl (decide (j < i))) gtD .fz := od_icmp _
theorem ints_of {K : PySem.W.Frag} {H : Hp} {S : Addr → Prop} : ∀ {ds : List D} {vs : List V} {ns : List Int}, RepAll K H S vs ds → intsD ds = some ns → vs = ns.map V.int
  | [], _, _, .nil, e => by simp [intsD] at e; subst e; rfl
  | .int i :: ds, _, ns, .cons r t, e => by
    simp only [intsD, Option.map_eq_some_iff] at e
    obtain ⟨ms, e, rfl⟩ := e
    rw [r.toInt, ints_of t e]; rfl
  | .none :: _, _, _, .cons _ _, e => by simp [intsD] at e
  | .bool _ :: _, _, _, .cons _ _, e => by simp [intsD] at e
  | .str _ :: _, _, _, .cons _ _, e => by simp [intsD] at e
  | .list _ :: _, _, _, .cons _ _, e => by simp [intsD] at e
  | .tuple _ :: _, _, _, .cons _ _, e => by simp [intsD] at e
  | .dict _ :: _, _, _, .cons _ _, e => by simp [intsD] at e
def rLtF (K : PySem.W.Frag) : R2 := fun x y H Q => rI0 (fun i j => .bl (decide (i < j))) x y H Q ∨ rLtT K x y H Q
theorem op_ltF (hu : X.A.units < cLine) : OpR X (compareOp .Lt) (rLtF X.K) := op_lt.or (op_ltT hu)
theorem od_lt {K : PySem.W.Frag} : OpD K (rLtF K) ltD .fz := by
  intro κ g env σ H x y dx dy dz Q F rx ry e h
  cases dx <;> cases dy <;> simp only [ltD] at e <;> first
    | (cases e; rw [rx.toInt, ry.toInt]; exact .inl ⟨_, _, rfl, rfl, ok_same F (.bl _) h⟩)
    | (simp only [Option.bind_eq_some_iff, Option.map_eq_some_iff] at e
       obtain ⟨ns, e1, ms, e2, rfl⟩ := e
       obtain ⟨a, xs, rfl, ra, za, la⟩ := rx.toTup
       obtain ⟨b, ys, rfl, rb, zb, lb⟩ := ry.toTup
       have ea := ints_of la e1
       have eb := ints_of lb e2
       subst ea eb
       exact .inr ⟨a, b, ns, ms, rfl, rfl, sqT_of ra, sqT_of rb, ok_same F (.bl _) h⟩)
    | cases e
theorem od_eq {K : PySem.W.Frag} : OpD K (rEqD K) eqD .fz := by
  intro κ g env σ H x y dx dy dz Q F rx ry e h
  unfold eqD at e
  split at e
  · rename_i hh
    cases e
    exact ⟨dx, dy, rx.dp hh.1, ry.dp hh.2, hh.1, hh.2, ok_same F (.bl _) h⟩
  · cases e
theorem od_ne {K : PySem.W.Frag} : OpD K (rNeD K) neD .fz := by
  intro κ g env σ H x y dx dy dz Q F rx ry e h
  unfold neD at e
  split at e
  · rename_i hh
    cases e
    exact ⟨dx, dy, rx.dp hh.1, ry.dp hh.2, hh.1, hh.2, ok_same F (.bl _) h⟩
  · cases e
/-- in, a list or a tuple of data -/
def rInF (K : PySem.W.Frag) : R2 := fun x y H Q => ∃ d c ds, Dp K H x d ∧ Dp K H y c ∧ seqD c = some ds ∧ SeqAt.shaped d = true ∧ SeqAt.shaped c = true ∧ Q (.bl (ds.any fun z => PyData.eqv z d)) H
theorem op_inF (hu : X.A.units + 65 < cLine) : OpR X (compareOp .In) (rInF X.K) := by
  intro pins s σ H x y v u Q I rx ry h
  obtain ⟨d, c, ds, hd, he, ec, sd, se, q⟩ := h
  obtain ⟨as, r1⟩ := Dp.reads I d x v hd rx
  obtain ⟨bs, r2⟩ := Dp.reads I c y u he ry
  cases c <;> simp only [seqD] at ec <;> first
    | (cases ec; exact SeqAt.in_list_reads r2 r1 (SeqAt.canLay_of_shaped se) (SeqAt.canLay_of_shaped sd) (room_in_shaped sd hu) ⟨.bl _, H, I, rfl, q⟩)
    | (cases ec; exact SeqAt.in_tuple_reads r2 r1 (SeqAt.canLay_of_shaped se) (SeqAt.canLay_of_shaped sd) (room_in_shaped sd hu) ⟨.bl _, H, I, rfl, q⟩)
    | (simp [SeqAt.shaped, PyData.canLay0] at se; done)
    | cases ec
theorem od_in {K : PySem.W.Frag} : OpD K (rInF K) inD .fz := by
  intro κ g env σ H x y dx dy dz Q F rx ry e h
  unfold inD at e
  split at e
  · rename_i ys ey
    split at e
    · rename_i hh
      cases e
      exact ⟨dx, dy, ys, rx.dp hh.1, ry.dp hh.2, ey, hh.1, hh.2, ok_same F (.bl _) h⟩
    · cases e
  · cases e
def isD : D → D → Option D
  | x, .none => isNoneD x
  | .bool a, .bool b => some (.bool (decide (a = b)))
  | _, _ => none
def isNotD : D → D → Option D
  | x, .none => notNoneD x
  | .bool a, .bool b => some (.bool (!decide (a = b)))
  | _, _ => none
theorem ixD_dict {kvs : List (D × D)} {y z : D} (h : ixD (.dict kvs) y = some z) : ∃ xs i, kvs = [(.none, .tuple xs)] ∧ y = .int i ∧ (ixN xs.length i).bind (fun j => xs[j]?) = some z := by
  unfold ixD at h
  split at h
  · rename_i i e; cases e
  · rename_i i e; cases e
  · rename_i i e; cases e; exact ⟨_, _, rfl, rfl, h⟩
  · cases h
theorem od_ix {K : PySem.W.Frag} : OpD K (rIx K) ixD .fz := by
  intro κ g env σ H x y dx dy dz Q F rx ry e h
  by_cases hd : ∃ kvs, dx = .dict kvs
  · obtain ⟨kvs, rfl⟩ := hd
    obtain ⟨ds, i, rfl, rfl, e⟩ := ixD_dict e
    obtain ⟨j, ej, e⟩ := Option.bind_eq_some_iff.mp e
    rw [ry.toInt]
    obtain ⟨a, xs, rfl, ra, za, la⟩ := rx.toTupO (d := xtD ds) rfl
    obtain ⟨v, ev, rv⟩ := la.get e
    exact .inr (.inl ⟨a, xs, _, v, rfl, rfl, sqT_of ra, by unfold atI; rw [la.length]; show (G7.ixN _ _).bind _ = _; rw [ej]; exact ev, ok_same F rv h⟩)
  cases dx <;> cases dy <;> simp only [ixD] at e <;> first
    | (simp only [Option.bind_eq_some_iff] at e
       obtain ⟨j, ej, e⟩ := e
       rw [ry.toInt]
       first
         | (obtain ⟨a, xs, rfl, ra, za, la⟩ := rx.toLst
            obtain ⟨v, ev, rv⟩ := la.get e
            exact .inl ⟨a, xs, _, v, rfl, rfl, .inl ra, by unfold atI; rw [la.length]; show (G7.ixN _ _).bind _ = _; rw [ej]; exact ev, ok_same F rv h⟩)
         | (obtain ⟨a, xs, rfl, ra, za, la⟩ := rx.toTup
            obtain ⟨v, ev, rv⟩ := la.get e
            exact .inr (.inl ⟨a, xs, _, v, rfl, rfl, sqT_of ra, by unfold atI; rw [la.length]; show (G7.ixN _ _).bind _ = _; rw [ej]; exact ev, ok_same F rv h⟩)))
    | (exact absurd ⟨_, rfl⟩ hd)
    | cases e
theorem cut_rep {K : PySem.W.Frag} {H : Hp} {S : Addr → Prop} {xs : List V} {ds : List D} (la : RepAll K H S xs ds) (lo hi : Option Int) : RepAll K H S (cutV xs lo hi) (cut ds lo hi) := by
  unfold cutV cut
  rw [la.length]
  exact (la.drop _).take _
theorem cut_whole {n : Nat} {ds : List D} {lo hi : Option Int} (e : n = ds.length) (h1 : HT.sIx n 0 lo = 0) (h2 : HT.sIx n n hi = n) : cut ds lo hi = ds := by
  unfold cut
  rw [← e, h1, h2, e]
  simp
/-- t[lo:hi], as it is laid -/
def rSlM (K : PySem.W.Frag) : V → Option Int → Option Int → Hp → VK → Prop := fun x lo hi H Q => ∃ a xs, x = .ref a ∧ SqT K H a xs ∧
  (HT.sIx xs.length 0 lo = 0 ∧ HT.sIx xs.length xs.length hi = xs.length → Q (.ref a) H) ∧ (¬ (HT.sIx xs.length 0 lo = 0 ∧ HT.sIx xs.length xs.length hi = xs.length) → ∀ p o, H p = none → MkT o (cutV xs lo hi) → Q (.ref p) (upd H p o))
theorem sl_tupM : SlR X (rSlM X.K) := by
  intro pins s σ H x v vl vu lo hi sl Q I rx hs pl pu h
  obtain ⟨a, xs, rfl, hx, q1, q2⟩ := h
  by_cases hw : HT.sIx xs.length 0 lo = 0 ∧ HT.sIx xs.length xs.length hi = xs.length
  · exact sl_tupA pins s σ H _ v vl vu lo hi sl Q I rx hs pl pu ⟨a, xs, rfl, hx, q1, fun c => absurd hw c⟩
  · cases rx
    obtain ⟨its, r, ht, hz⟩ := I.tuple hx
    have en : its.toArray.size = xs.length := by rw [List.size_toArray]; exact r.length.symm
    refine ⟨"tuple", _, PyProof.Rows.slot_tuple_getitem.lookup, ht.typeIs, ?_⟩
    refine HT.getItem_tuple_cut ht hs pl pu (by rw [en]; exact hw) ?_ (by rw [en]; exact hz)
    rw [en]
    obtain ⟨o, m, J⟩ := mk_laid I ((r.drop (HT.sIx xs.length 0 lo)).take (HT.sIx xs.length xs.length hi - HT.sIx xs.length 0 lo)) (Nat.le_trans (cutV_length xs lo hi) hz) rfl
    exact ⟨.ref s.heap.objs.size, _, J, rfl, q2 hw _ o (I.hok.fresh (Nat.le_refl _)) m⟩
def rSlF (K : PySem.W.Frag) : V → Option Int → Option Int → Hp → VK → Prop := fun x lo hi H Q => rSlL K x lo hi H Q ∨ rSlM K x lo hi H Q
theorem sl_F : SlR X (rSlF X.K) := sl_list.or sl_tupM
def SlD (K : PySem.W.Frag) (r : V → Option Int → Option Int → Hp → VK → Prop) (f : D → Option Int → Option Int → Option D) (k : RK) : Prop := ∀ (κ : List SK) (g : Rg) (env : En) (σ : St) (H : Hp) (x : V) (lo hi : Option Int) (dx dz : D) (Q : VK), Frm K κ g env σ H → RdB K H g.own x dx → f dx lo hi = some dz →
  (∀ v H' g', Frm K κ g' env σ H' → EStep [] g g' H H' → Res K g' k H H' v dz → Q v H') → r x lo hi H Q
theorem slD_dict {kvs : List (D × D)} {lo hi : Option Int} {z : D} (h : slD (.dict kvs) lo hi = some z) : ∃ xs, kvs = [(.none, .tuple xs)] ∧ z = if HT.sIx xs.length 0 lo = 0 ∧ HT.sIx xs.length xs.length hi = xs.length then xtD xs else .tuple (cut xs lo hi) := by
  unfold slD at h
  split at h
  · rename_i e; cases e
  · rename_i e; cases e
  · rename_i e; cases e; cases h; exact ⟨_, rfl, rfl⟩
  · cases h
theorem sd_F {K : PySem.W.Frag} : SlD K (rSlF K) slD .fz := by
  intro κ g env σ H x lo hi dx dz Q F rx e h
  by_cases hd : ∃ kvs, dx = .dict kvs
  · obtain ⟨kvs, rfl⟩ := hd
    obtain ⟨ds, rfl, rfl⟩ := slD_dict e
    have tr := RdB.xtRep (ds := ds) rx
    obtain ⟨a, xs, rfl, ra, za, la⟩ := rx.toTupO (d := xtD ds) rfl
    refine .inr ⟨a, xs, rfl, sqT_of ra, fun w => ?_, fun w p o np m => ?_⟩
    · rw [la.length] at w
      rw [if_pos w] at h
      exact ok_same F tr h
    · rw [la.length] at w
      rw [if_neg w] at h
      exact ok_tup F (cut_rep la lo hi) (Nat.le_trans (cutV_length _ _ _) za) np m h
  cases dx <;> simp only [slD] at e <;> first
    | (cases e
       first
         | (obtain ⟨a, xs, rfl, ra, za, la⟩ := rx.toLst
            exact .inl ⟨a, xs, rfl, .inl ra, fun p np => ok_lst F (cut_rep la lo hi) (Nat.le_trans (cutV_length _ _ _) za) np h⟩)
         | (have tr := rx.tupRep
            obtain ⟨a, xs, rfl, ra, za, la⟩ := rx.toTup
            refine .inr ⟨a, xs, rfl, sqT_of ra, fun w => ?_, fun _ p o np m => ok_tup F (cut_rep la lo hi) (Nat.le_trans (cutV_length _ _ _) za) np m h⟩
            rw [cut_whole la.length w.1 w.2] at h
            exact ok_same F tr h))
    | (exact absurd ⟨_, rfl⟩ hd)
    | cases e
end
end G7

set_option maxRecDepth 100000
namespace G7
open PySem PySem.Spec PyProof.Rows L2

def insI (x : Int) : List Int → List Int
  | [] => [x]
  | y :: r => if x ≤ y then x :: y :: r else y :: insI x r
def isort : List Int → List Int
  | [] => []
  | x :: r => insI x (isort r)
theorem insI_perm (x : Int) : ∀ l : List Int, (insI x l).Perm (x :: l)
  | [] => .refl _
  | y :: r => by
    unfold insI
    split
    · exact .refl _
    · exact ((insI_perm x r).cons y).trans (.swap x y r)
theorem isort_perm : ∀ l : List Int, (isort l).Perm l
  | [] => .refl _
  | x :: r => (insI_perm x _).trans ((isort_perm r).cons x)
theorem insI_sorted (x : Int) : ∀ l : List Int, l.Pairwise (· ≤ ·) → (insI x l).Pairwise (· ≤ ·)
  | [], _ => by simp [insI]
  | y :: r, h => by
    unfold insI
    have h' := List.pairwise_cons.mp h
    split
    · rename_i c
      refine List.pairwise_cons.mpr ⟨fun z hz => ?_, h⟩
      rcases List.mem_cons.mp hz with rfl | hz
      · exact c
      · exact Int.le_trans c (h'.1 z hz)
    · rename_i c
      refine List.pairwise_cons.mpr ⟨fun z hz => ?_, insI_sorted x r h'.2⟩
      rcases List.mem_cons.mp ((insI_perm x r).mem_iff.mp hz) with rfl | hz
      · omega
      · exact h'.1 z hz
theorem isort_sorted : ∀ l : List Int, (isort l).Pairwise (· ≤ ·)
  | [] => .nil
  | x :: r => insI_sorted x _ (isort_sorted r)
def sortedD : List D → Option D
  | [.list xs] => (intsD xs).map fun ns => .list ((isort ns).map .int)
  | _ => none
def maxI : List Int → Option Int
  | [] => none
  | x :: r => some (r.foldl max x)
section
variable {K : PySem.W.Frag} {H : Hp} {S : Addr → Prop}
theorem rda1 {vs : List V} {d : D} (h : RdA K H S vs [d]) : ∃ v, vs = [v] ∧ RdB K H S v d := by
  cases vs with
  | nil => exact h.elim
  | cons v r => cases r with
    | nil => exact ⟨v, rfl, h.1⟩
    | cons _ _ => exact h.2.elim
theorem rda2 {vs : List V} {d e : D} (h : RdA K H S vs [d, e]) : ∃ v w, vs = [v, w] ∧ RdB K H S v d ∧ RdB K H S w e := by
  cases vs with
  | nil => exact h.elim
  | cons v r =>
    obtain ⟨w, rfl, q⟩ := rda1 h.2
    exact ⟨v, w, rfl, h.1, q⟩
theorem repInts : ∀ ns : List Int, RepAll K H S (ns.map V.int) (ns.map .int)
  | [] => .nil
  | n :: ns => .cons (.int n) (repInts ns)
theorem bools_of : ∀ {ds : List D} {vs : List V} {ns : List Bool}, RepAll K H S vs ds → boolsD ds = some ns → vs = ns.map V.bl
  | [], _, _, .nil, e => by simp [boolsD] at e; subst e; rfl
  | .bool i :: ds, _, ns, .cons r t, e => by
    simp only [boolsD, Option.map_eq_some_iff] at e
    obtain ⟨ms, e, rfl⟩ := e
    rw [r.toBl, bools_of t e]; rfl
  | .none :: _, _, _, .cons _ _, e => by simp [boolsD] at e
  | .int _ :: _, _, _, .cons _ _, e => by simp [boolsD] at e
  | .str _ :: _, _, _, .cons _ _, e => by simp [boolsD] at e
  | .list _ :: _, _, _, .cons _ _, e => by simp [boolsD] at e
  | .tuple _ :: _, _, _, .cons _ _, e => by simp [boolsD] at e
  | .dict _ :: _, _, _, .cons _ _, e => by simp [boolsD] at e
end
section
variable {X : Cx} {K : PySem.W.Frag}
def rLen (K : PySem.W.Frag) : List V → Hp → VK → Prop := fun xs H Q => ∃ p ys, xs = [.ref p] ∧ (SqL K H p ys ∨ SqT K H p ys) ∧ Q (.int ys.length) H
theorem bd_len : BlD K (rLen K) lenD .fz := by
  intro κ g env σ H vs ds dz Q F r e h
  match ds, e with
  | [.list xs], e =>
    cases e
    obtain ⟨v, rfl, rx⟩ := rda1 r
    obtain ⟨a, ys, rfl, ra, za, la⟩ := rx.toLst
    exact ⟨a, ys, rfl, .inl (.inl ra), by rw [la.length]; exact ok_same F (.int _) h⟩
  | [.tuple xs], e =>
    cases e
    obtain ⟨v, rfl, rx⟩ := rda1 r
    obtain ⟨a, ys, rfl, ra, za, la⟩ := rx.toTup
    exact ⟨a, ys, rfl, .inr (sqT_of ra), by rw [la.length]; exact ok_same F (.int _) h⟩
  | [.dict [(.none, .tuple xs)]], e =>
    cases e
    obtain ⟨v, rfl, rx⟩ := rda1 r
    obtain ⟨a, ys, rfl, ra, za, la⟩ := rx.toTupO (d := xtD xs) rfl
    exact ⟨a, ys, rfl, .inr (sqT_of ra), by rw [la.length]; exact ok_same F (.int _) h⟩
def rTupOf (K : PySem.W.Frag) : List V → Hp → VK → Prop := fun xs H Q => ∃ p ys, xs = [.ref p] ∧ ((SqL K H p ys ∧ ∀ l o, H l = none → MkT o ys → Q (.ref l) (upd H l o)) ∨ (SqT K H p ys ∧ Q (.ref p) H))
theorem call_tupleM : CallR X (.type "tuple") (rTupOf X.K) := by
  intro pins s σ H xs us Q I r h
  obtain ⟨p, ys, rfl, ⟨hq, q⟩ | ⟨hq, q⟩⟩ := h
  · obtain ⟨u, rfl, rx⟩ := vals1 r
    cases rx
    obtain ⟨its, rv, pl, hz⟩ := I.list hq
    have en := rv.length
    refine call_tuple_list pl.isList (fun h' kp => ?_) (by simp only [List.size_toArray] <;> omega)
    have J : Inv X pins σ H { s with heap := h' } := I.kept (t' := s.toks) kp
    obtain ⟨o, m, J2⟩ := mk_laid J rv hz rfl
    exact ⟨.ref h'.objs.size, _, J2, rfl, q _ o (J.hok.fresh (Nat.le_refl _)) m⟩
  · exact call_tuple_of pins s σ H _ us Q I r ⟨p, ys, rfl, .inr ⟨hq, q⟩⟩
theorem bd_tup : BlD K (rTupOf K) tupD .fz := by
  intro κ g env σ H vs ds dz Q F r e h
  match ds, e with
  | [.list xs], e =>
    cases e
    obtain ⟨v, rfl, rx⟩ := rda1 r
    obtain ⟨a, ys, rfl, ra, za, la⟩ := rx.toLst
    exact ⟨a, ys, rfl, .inl ⟨.inl ra, fun l o nl m => ok_tup F la za nl m h⟩⟩
  | [.tuple xs], e =>
    cases e
    obtain ⟨v, rfl, rx⟩ := rda1 r
    have t := rx.tupRep
    obtain ⟨a, ys, rfl, ra, za, la⟩ := rx.toTup
    exact ⟨a, ys, rfl, .inr ⟨sqT_of ra, ok_same F t h⟩⟩
  | [.dict [(.none, .tuple xs)]], e =>
    cases e
    obtain ⟨v, rfl, rx⟩ := rda1 r
    have t := RdB.xtRep (ds := xs) rx
    obtain ⟨a, ys, rfl, ra, za, la⟩ := rx.toTupO (d := xtD xs) rfl
    exact ⟨a, ys, rfl, .inr ⟨sqT_of ra, ok_same F t h⟩⟩
def rLstOf (K : PySem.W.Frag) : List V → Hp → VK → Prop := fun xs H Q => ∃ p ys, xs = [.ref p] ∧ (SqL K H p ys ∨ SqT K H p ys) ∧ ∀ l, H l = none → Q (.ref l) (upd H l (.lst ys))
theorem bd_lst : BlD K (rLstOf K) lstD .nw := by
  intro κ g env σ H vs ds dz Q F r e h
  match ds, e with
  | [.list xs], e =>
    cases e
    obtain ⟨v, rfl, rx⟩ := rda1 r
    obtain ⟨a, ys, rfl, ra, za, la⟩ := rx.toLst
    exact ⟨a, ys, rfl, .inl (.inl ra), fun l nl => ok_lstN F la za nl h⟩
  | [.tuple xs], e =>
    cases e
    obtain ⟨v, rfl, rx⟩ := rda1 r
    obtain ⟨a, ys, rfl, ra, za, la⟩ := rx.toTup
    exact ⟨a, ys, rfl, .inr (sqT_of ra), fun l nl => ok_lstN F la za nl h⟩
  | [.dict [(.none, .tuple xs)]], e =>
    cases e
    obtain ⟨v, rfl, rx⟩ := rda1 r
    obtain ⟨a, ys, rfl, ra, za, la⟩ := rx.toTupO (d := xtD xs) rfl
    exact ⟨a, ys, rfl, .inr (sqT_of ra), fun l nl => ok_lstN F la za nl h⟩
theorem bd_max2 : BlD K (fun xs H Q => ∃ i j, xs = [.int i, .int j] ∧ Q (.int (if j > i then j else i)) H) max2D .fz := by
  intro κ g env σ H vs ds dz Q F r e h
  match ds, e with
  | [.int i, .int j], e =>
    cases e
    obtain ⟨v, w, rfl, rx, ry⟩ := rda2 r
    rw [rx.toInt, ry.toInt]
    exact ⟨i, j, rfl, ok_same F (.int _) h⟩
theorem bd_min2 : BlD K (fun xs H Q => ∃ i j, xs = [.int i, .int j] ∧ Q (.int (if j < i then j else i)) H) min2D .fz := by
  intro κ g env σ H vs ds dz Q F r e h
  match ds, e with
  | [.int i, .int j], e =>
    cases e
    obtain ⟨v, w, rfl, rx, ry⟩ := rda2 r
    rw [rx.toInt, ry.toInt]
    exact ⟨i, j, rfl, ok_same F (.int _) h⟩
theorem bd_all : BlD K (rAll K) allD .fz := by
  intro κ g env σ H vs ds dz Q F r e h
  match ds, e with
  | [.list xs], e =>
    simp only [allD, Option.map_eq_some_iff] at e
    obtain ⟨bs, e2, rfl⟩ := e
    obtain ⟨v, rfl, rx⟩ := rda1 r
    obtain ⟨a, ys, rfl, ra, za, la⟩ := rx.toLst
    have eb := bools_of la e2
    subst eb
    exact ⟨a, bs, rfl, .inl ra, ok_same F (.bl _) h⟩
def tyD : D → String
  | .none => "NoneType"
  | .bool _ => "bool"
  | .int _ => "int"
  | .str _ => "str"
  | .list _ => "list"
  | .tuple _ => "tuple"
  | .dict [(.none, .tuple _)] => "tuple"
  | .dict [(.bool true, .tuple _)] => "tuple"
  | .dict _ => "dict"
def isT (T t : String) : Bool := t == T || (t == "bool" && T == "int")
def isTD (T : String) (d : D) : Option D := some (.bool (isT T (tyD d)))
theorem tyD_dK (kvs : List (Key × V)) (ds : List D) : tyD (.dict ((kvs.map fun p => kD p.1).zip ds)) = "dict" := by
  cases kvs with
  | nil => rfl
  | cons p kvs =>
    obtain ⟨k, v⟩ := p
    cases ds with
    | nil => rfl
    | cons d ds => cases k <;> rfl
theorem tyD_dT (kvs : List (List Key × V)) (ds : List D) : tyD (.dict ((.none, .none) :: (kvs.map fun p => tD p.1).zip ds)) = "dict" := rfl
theorem RdB.tyX {H : Hp} {S : Addr → Prop} {v : V} {d : D} (r : RdB K H S v d) : TyX K H v (.type (tyD d)) := by
  rcases r with r | ⟨a, rfl, r⟩
  · cases r with
    | non => exact .base .non
    | bl b => exact .base (.bl b)
    | int i => exact .base (.int i)
    | str x => exact .base (.str x)
    | lst n r z al => exact .base (.lst r)
    | tup n r z al => rcases r with ⟨_, r⟩ | ⟨_, o, r, _⟩; exact .base (.tup r); exact .fTuple r
    | dK n r al => rw [tyD_dK]; exact .base (.dK r)
    | dT n r al => rw [tyD_dT]; exact .base (.dT r)
    | xt n r e z al => exact .fTuple r
    | kt n r z al => exact .base (.tup r)
  · cases r with
    | lst r z al => rcases r with r | ⟨o, r⟩; exact .base (.lst r); exact .base (.frz r)
    | dK r al => rw [tyD_dK]; exact .base (.dK r)
    | dT r al => rw [tyD_dT]; exact .base (.dT r)
theorem se_isi {κ : List SK} {M : List Nat} {k : RK} {w : WE} {T : String} {a : Expr} {x : Str} {p p2 pos : Pos} (hT : (["NoneType", "bool", "int", "str", "list", "tuple", "dict"].all fun t => kitB t T == some (isT T t)) = true) (ha : SE X κ M k a w) (hg : Gl X "isinstance") (hm : X.mg "isinstance" = none)
    (hgT : Gl X x) (hmT : X.mg x = none) (hvT : bootBuiltins x = some (.type T)) (pa : k.rdable = true := by rfl) (hn : x ≠ "__name__" := by decide) (hdb : (x == ("__debug__" : Str)) = false := by decide)
    (he : starEach [a, .Name x p2] X.env = (false, eval a X.env) :: starEach [.Name x p2] X.env := by rfl) (he2 : starEach [.Name x p2] X.env = (false, eval (.Name x p2) X.env) :: starEach [] X.env := by rfl) (hpl : (backTo pos (starEach [.Name x p2] X.env)).any (·.1) = false := by rfl) :
    SE X κ M .fz (.Call (.Name "isinstance" p) [a, .Name x p2] [] pos) (wOp1 (isTD T) w) :=
  SE.of (pe_callB (id := "isinstance") call_isi hg hm (by decide +kernel) (pa_cons ha (pa_cons (pe_bltn (v := .ty T) hgT hmT hvT rfl hn hdb) pa_nil he2) he) (by decide) (by decide) he hpl) fun σ H Q ⟨g, env, W, F, hw, post⟩ =>
    ⟨g, env, _, F, hw, fun v H1 g1 e1 d F1 s1 r1 ⟨z, ez, w1⟩ => by
      cases ez
      refine ⟨v, .ty T, _, .type T, isT T (tyD d), rfl, .ty T, (r1.rdb pa).tyX, kit_ty ?_, post _ H1 g1 e1 _ F1 s1 (.bl _) w1⟩
      have := List.all_eq_true.mp hT (tyD d) (by unfold tyD; split <;> simp)
      exact beq_iff_eq.mp this⟩
def cO (K : PySem.W.Frag) (κ : List SK) (M : List Nat) (w : WO) : TO := fun σ H Q => ∃ g env W, Frm K κ g env σ H ∧ w env W ∧ ∀ o H' g' env', Frm K κ g' env' σ H' → EStep M g g' H H' → W o env' → Q o H'
def SO (X : Cx) (κ : List SK) (M : List Nat) (e : Option Expr) (w : WO) : Prop := PO X e (cO X.K κ M w)
theorem SO.of {κ : List SK} {M : List Nat} {e : Option Expr} {w : WO} {t : TO} (h : PO X e t) (i : ∀ σ H Q, cO X.K κ M w σ H Q → t σ H Q) : SO X κ M e w := ⟨fun pins s σ H Q I q => h.run pins s σ H Q I (i σ H Q q)⟩
theorem so_n {κ : List SK} {M : List Nat} : SO X κ M none woN := SO.of po_none fun σ H Q ⟨g, env, W, F, hw, post⟩ => post none H g env F .refl hw
theorem so_s {κ : List SK} {M : List Nat} {k : RK} {e : Expr} {w : WE} (h : SE X κ M k e w) (pa : k.rdable = true := by rfl) : SO X κ M (some e) (woS w) :=
  SO.of (po_some h) fun σ H Q ⟨g, env, W, F, hw, post⟩ => ⟨g, env, _, F, hw, fun v H1 g1 e1 d F1 s1 r1 ⟨i, e, w1⟩ => by
    subst e
    exact ⟨i, (r1.rdb pa).toInt, post (some i) H1 g1 e1 F1 s1 w1⟩⟩
theorem se_sl {κ : List SK} {M : List Nat} {k ka : RK} {a : Expr} {lo hi : Option Expr} {wa : WE} {wl wh : WO} {r : V → Option Int → Option Int → Hp → VK → Prop} {f : D → Option Int → Option Int → Option D} {p2 pos : Pos} (hr : SlR X r) (hf : SlD X.K r f k) (ha : SE X κ M ka a wa) (hl : SO X κ M lo wl) (hh : SO X κ M hi wh)
    (hs : stable ka M = true := by rfl) (pa : ka.rdable = true := by rfl) : SE X κ M k (.Subscript a (.Slice lo hi none p2) pos) (wSl f wa wl wh) :=
  SE.of (pe_slice hr ha hl hh) fun σ H Q ⟨g, env, W, F, hw, post⟩ => ⟨g, env, _, F, hw, fun x H1 g1 e1 d1 F1 s1 r1 w1 => ⟨g1, e1, _, F1, w1, fun l H2 g2 e2 F2 s2 w2 => ⟨g2, e2, _, F2, w2, fun u H3 g3 e3 F3 s3 ⟨z, ez, w3⟩ => by
    have s12 := s1.tr s2 F F1
    have s123 := s12.tr s3 F F2
    refine hf κ g3 e3 σ H3 x l u d1 z Q F3 (((r1.step s2 F1 hs).step s3 F2 hs).rdb pa) ez fun v H4 g4 F4 s4 r4 => ?_
    exact post v H4 g4 e3 z F4 (s123.tr (s4.mono fun _ q => nomatch q) F F3) (r4.back fun p q => s123.there F F3 q) w3⟩⟩⟩
end
end G7

set_option maxRecDepth 100000
namespace G7
open PySem PySem.Spec PyProof.Rows L2

section
variable {K : PySem.W.Frag} {κ : List SK} {N : List Nat}
/-- a list or a tuple at a -/
def Src (K : PySem.W.Frag) (N : List Nat) (a : Addr) (xs : List D) (l : Bool) (g : Rg) (H : Hp) : Prop :=
  ∃ vs, vs.length ≤ sizeLine ∧ RepAll K H g.own vs xs ∧ (if l = true then Rd H a (.lst vs) ∧ ¬ g.P a ∧ ∀ j, g.al j = some a → j ∈ N else (¬ g.own a ∧ Rd H a (.tup vs)) ∨ KTup K a vs)
theorem SStep.off {M : List Nat} {g g' : Rg} {H H' : Hp} {env : En} {σ : St} (s : SStep κ M g g' H H') (F : Frm K κ g env σ H) (hv : 999 ∉ M) : ∀ b o, ¬ g.own b → H b = some o → H' b = some o := fun b o n e =>
  s.keep b o e (fun p => n (F.p_own p)) (fun i _ z => n (.inr ⟨i, z⟩)) fun h => absurd h hv
theorem SStep.own {M : List Nat} {g g' : Rg} {H H' : Hp} (s : SStep κ M g g' H H') : ∀ a, g'.own a → g.own a ∨ H a = none := fun a q => by
  rcases q with q | ⟨i, q⟩
  · exact (s.dn a q).imp .inl id
  · rcases s.al i a q with z | ⟨j, _, _, z⟩ | z
    · exact .inl (.inr ⟨i, z⟩)
    · exact .inl (.inr ⟨j, z⟩)
    · exact .inr z
theorem Src.holds (h9 : 999 ∈ N) {a : Addr} {xs : List D} {l : Bool} : ∀ (K' : PySem.W.Frag) M g g' env env' σ σ' H H', (∀ i ∈ M, i ∉ N) → Frm K' κ g env σ H → Frm K' κ g' env' σ' H' → SStep κ M g g' H H' → Src K N a xs l g H → Src K N a xs l g' H' := by
  intro K' M g g' env env' σ σ' H H' dis F F' s ⟨vs, z, al, h⟩
  have hv : 999 ∉ M := fun q => dis _ q h9
  have off := s.off F hv
  refine ⟨vs, z, al.keep off s.own, ?_⟩
  cases l with
  | true =>
    obtain ⟨r, np, na⟩ := h
    refine ⟨rd_keep (fun o e => s.keep a o e np (fun i hi z => dis i hi (na i z)) fun h => absurd h hv) r, fun q => (s.pd a q).elim np fun e => rd_tracked r e, fun j q => (s.al j a q).elim (na j) fun e => e.elim (fun ⟨i, hi, _, z⟩ => absurd (na i z) (dis i hi)) fun e => absurd e (rd_tracked r)⟩
  | false =>
    have h' : (¬ g.own a ∧ Rd H a (.tup vs)) ∨ KTup K a vs := h
    show (¬ g'.own a ∧ Rd H' a (.tup vs)) ∨ KTup K a vs
    refine h'.imp (fun ⟨n, r⟩ => ⟨fun q => (s.own a q).elim n fun e => rd_tracked r e, rd_keep (fun o e => off a o n e) r⟩) id
theorem src_holds (h9 : 999 ∈ N := by first | assumption | decide) {a : Addr} {xs : List D} {l : Bool} : Holds κ N (Src K N a xs l) := fun K' M g g' env env' σ σ' H H' => Src.holds h9 K' M g g' env env' σ σ' H H'
def nOf : RK → List Nat
  | .ow i => [i, 999]
  | _ => [999]
theorem n9 (k : RK) : 999 ∈ nOf k := by cases k <;> simp [nOf]
/-- from an answer -/
theorem src_lst {g : Rg} {env : En} {σ : St} {H0 H : Hp} {k : RK} {v : V} {ys0 : List D} (F : Frm K κ g env σ H) (pa : k.rdable = true) (r : Res K g k H0 H v (.list ys0)) : ∃ a, v = .ref a ∧ Src K (nOf k) a ys0 true g H := by
  have lst : ∃ a ys, v = .ref a ∧ Rd H a (.lst ys) ∧ ys.length ≤ sizeLine ∧ RepAll K H g.own ys ys0 ∧ ¬ g.P a ∧ ∀ j, g.al j = some a → j ∈ nOf k := by
    cases k with
    | fz =>
      cases r with
      | lst n q z al => exact ⟨_, _, rfl, .inl q, z, al, fun p => n (F.p_own p), fun j e => absurd (.inr ⟨j, e⟩) n⟩
    | rd =>
      rcases r with r | ⟨a, rfl, np, na, r⟩
      · cases r with
        | lst n q z al => exact ⟨_, _, rfl, .inl q, z, al, fun p => n (F.p_own p), fun j e => absurd (.inr ⟨j, e⟩) n⟩
      · cases r with
        | lst q z al => exact ⟨_, _, rfl, q, z, al, np, fun j e => absurd (F.il a na) (F.alo j a e).1⟩
    | nw =>
      obtain ⟨p, rfl, _, hO, hP, r⟩ := r
      cases r with
      | lst q z al => exact ⟨_, _, rfl, .inl q, z, al, hP, fun j e => absurd hO (F.alo j p e).1⟩
    | ow i =>
      obtain ⟨p, rfl, ea, r⟩ := r
      cases r with
      | lst q z al => exact ⟨_, _, rfl, .inl q, z, al, fun z => (F.alo i p ea).1 (F.pl p z).1, fun j e => by rw [F.inj j i p e ea]; simp [nOf]⟩
    | pl => simp [RK.rdable] at pa
    | np => simp [RK.rdable] at pa
  obtain ⟨a, ys, e1, q, z, al, np, na⟩ := lst
  exact ⟨a, e1, ys, z, al, q, np, na⟩
theorem src_tup {g : Rg} {H0 H : Hp} {k : RK} {v : V} {ys0 : List D} {N : List Nat} (pa : k.rdable = true) (r : Res K g k H0 H v (.tuple ys0)) : ∃ a, v = .ref a ∧ Src K N a ys0 false g H := by
  obtain ⟨a, ys, e1, q, z, al⟩ := (r.rdb pa).toTup
  exact ⟨a, e1, ys, z, al, q⟩
theorem src_of {g : Rg} {env : En} {σ : St} {H0 H : Hp} {k : RK} {v : V} {d : D} {xs : List D} (F : Frm K κ g env σ H) (pa : k.rdable = true) (r : Res K g k H0 H v d) (e : seqD d = some xs) : ∃ a l, v = .ref a ∧ Src K (nOf k) a xs l g H := by
  cases d with
  | list ys0 =>
    simp only [seqD, Option.some.injEq] at e
    subst e
    obtain ⟨a, e, s⟩ := src_lst F pa r
    exact ⟨a, true, e, s⟩
  | tuple ys0 =>
    simp only [seqD, Option.some.injEq] at e
    subst e
    obtain ⟨a, e, s⟩ := src_tup pa r
    exact ⟨a, false, e, s⟩
  | none => simp [seqD] at e
  | bool _ => simp [seqD] at e
  | int _ => simp [seqD] at e
  | str _ => simp [seqD] at e
  | dict kvs =>
    rcases dict_xt kvs with ⟨ys, rfl⟩ | hn
    · simp only [seqD, Option.some.injEq] at e
      subst e
      obtain ⟨a, ys, e1, q, z, al⟩ := (r.rdb pa).toTupO (d := xtD ys) rfl
      exact ⟨a, false, e1, ys, z, al, q⟩
    · exfalso
      unfold seqD at e
      split at e
      · rename_i e1; cases e1
      · rename_i e1; cases e1
      · rename_i e1; cases e1; exact hn _ rfl
      · cases e
end
section
variable {X : Cx} {tg : Expr}
/-- a list or a tuple is walked -/
def iSeq (K : PySem.W.Frag) (tl : TE) : TI := fun σ H R => tl σ H fun x H1 => ∃ a, x = .ref a ∧ ((∃ xs, SqL K H1 a xs ∧ R (Itl K a) H1) ∨ (∃ xs, SqT K H1 a xs ∧ R (Itt K a) H1))
theorem pi_seq {l : Expr} {tl : TE} (hl : PE X l tl) : PI X tg l (iSeq X.K tl) := by
  refine ⟨fun pins s σ H R I h => ?_⟩
  refine thn (hl.run pins s σ H _ I h) fun v s1 ⟨x, H1, I1, r1, q1⟩ => ?_
  obtain ⟨a, e, q⟩ := q1
  subst e
  cases r1
  rcases q with ⟨xs, hq, q⟩ | ⟨xs, hq, q⟩
  · obtain ⟨its, rv, p, hz⟩ := I1.list hq
    refine wpAny_pyIter_list p.isList ?_
    refine ⟨s1.heap.objs.size, [s1.heap.objs.size], _, _, H1, rfl, I1.kept (t' := s1.toks) fun b o e => Heap.get?_push_of_some _ e, turn_list a _, ⟨_, Heap.get?_push_size _ rfl, rfl, rfl⟩, fun b hb => ?_, q⟩
    have e : b = s1.heap.objs.size := by simpa using hb
    subst e
    exact I1.fpOk (Nat.le_refl _) (I1.hok.fresh (Nat.le_refl _))
  · obtain ⟨its, rv, p, hz⟩ := I1.tuple hq
    refine wpAny_pyIter_tuple (show s1.heap.IsTuple a its.toArray from p) ?_
    refine ⟨s1.heap.objs.size, [s1.heap.objs.size], _, _, H1, rfl, I1.kept (t' := s1.toks) fun b o e => Heap.get?_push_of_some _ e, turn_tuple a _, ⟨_, Heap.get?_push_size _ rfl, rfl, rfl⟩, fun b hb => ?_, q⟩
    have e : b = s1.heap.objs.size := by simpa using hb
    subst e
    exact I1.fpOk (Nat.le_refl _) (I1.hok.fresh (Nat.le_refl _))
theorem sq_l {K : PySem.W.Frag} {N : List Nat} {a : Addr} {xs : List D} {g : Rg} {H : Hp} (h : Src K N a xs true g H) : ∃ vs, SqL K H a vs ∧ RepAll K H g.own vs xs := by
  obtain ⟨vs, z, al, r, _⟩ := h; exact ⟨vs, .inl r, al⟩
theorem sq_t {K : PySem.W.Frag} {N : List Nat} {a : Addr} {xs : List D} {g : Rg} {H : Hp} (h : Src K N a xs false g H) : ∃ vs, SqT K H a vs ∧ RepAll K H g.own vs xs := by
  obtain ⟨vs, z, al, r⟩ := h; exact ⟨vs, sqT_of r, al⟩
theorem src_len {K : PySem.W.Frag} {N : List Nat} {a : Addr} {xs : List D} {l : Bool} {g : Rg} {H : Hp} (h : Src K N a xs l g H) : xs.length ≤ sizeLine := by
  obtain ⟨vs, z, al, _⟩ := h; rw [← al.length]; exact z
theorem walk_l {K : PySem.W.Frag} {tb : Bool} {N : List Nat} {a : Addr} {xs : List D} : Walk K (Itl K a) tb xs (Src K N a xs true) where
  go := fun g H i h _ hi => by
    obtain ⟨vs, q, al⟩ := sq_l h
    obtain ⟨v, e, _⟩ := al.get (List.getElem?_eq_getElem hi)
    exact ⟨vs, v, q, e⟩
  yd := fun g H i v H' h _ hi ⟨e, y⟩ => by
    obtain ⟨vs, q, al⟩ := sq_l h
    subst e
    obtain ⟨x, ex, r⟩ := al.getV (y vs q)
    exact ⟨fun _ _ q => q, x, ex, .inl r⟩
  stop := fun g H h => by
    obtain ⟨vs, q, al⟩ := sq_l h
    exact ⟨vs, q, Nat.le_of_eq al.length⟩
  lenL := fun g H h => src_len h
theorem walk_t {K : PySem.W.Frag} {tb : Bool} {N : List Nat} {a : Addr} {xs : List D} : Walk K (Itt K a) tb xs (Src K N a xs false) where
  go := fun g H i h _ hi => by
    obtain ⟨vs, q, al⟩ := sq_t h
    obtain ⟨v, e, _⟩ := al.get (List.getElem?_eq_getElem hi)
    exact ⟨vs, v, q, e⟩
  yd := fun g H i v H' h _ hi ⟨e, y⟩ => by
    obtain ⟨vs, q, al⟩ := sq_t h
    subst e
    obtain ⟨x, ex, r⟩ := al.getV (y vs q)
    exact ⟨fun _ _ q => q, x, ex, .inl r⟩
  stop := fun g H h => by
    obtain ⟨vs, q, al⟩ := sq_t h
    exact ⟨vs, q, Nat.le_of_eq al.length⟩
  lenL := fun g H h => src_len h
variable {κ : List SK} {M : List Nat} {k kb : RK} {a b : Expr} {w wb : WE} {p pos : Pos}
theorem si_seq (ha : SE X κ M k a w) (pa : k.rdable = true := by rfl) : SI X κ M (nOf k) tg a (wiSeq w) :=
  SI.of (pi_seq ha) fun σ H R ⟨g, env, W, F, hw, post⟩ => ⟨g, env, _, F, hw, fun v H1 g1 e1 d F1 s1 r1 ⟨xs, ex, w1⟩ => by
    obtain ⟨c, l, rfl, sr⟩ := src_of F1 pa r1 ex
    refine ⟨c, rfl, ?_⟩
    cases l with
    | true =>
      obtain ⟨vs, q, _⟩ := sq_l sr
      exact .inl ⟨vs, q, post _ H1 g1 e1 xs _ F1 s1 sr (src_holds (n9 _)) walk_l w1⟩
    | false =>
      obtain ⟨vs, q, _⟩ := sq_t sr
      exact .inr ⟨vs, q, post _ H1 g1 e1 xs _ F1 s1 sr (src_holds (n9 _)) walk_t w1⟩⟩
theorem rangeD_len (lo hi : Int) : (rangeD lo hi).length = (hi - lo).toNat := by simp [rangeD]
theorem rangeD_get {lo hi : Int} {i : Nat} (h : i < (hi - lo).toNat) : (rangeD lo hi)[i]? = some (.int (lo + (i : Int))) := by
  unfold rangeD
  rw [List.getElem?_map, List.getElem?_range h]
  rfl
theorem walk_r {K : PySem.W.Frag} {tb : Bool} {lo hi : Int} (hl : (hi - lo).toNat ≤ sizeLine) : Walk K (Itr lo (hi - lo).toNat) tb (rangeD lo hi) (fun _ _ => True) where
  go := fun g H i _ _ hi => by rw [rangeD_len] at hi; exact hi
  yd := fun g H i v H' _ _ hi ⟨e, y⟩ => by
    rw [rangeD_len] at hi
    subst e y
    exact ⟨fun _ _ q => q, _, rangeD_get hi, .inl (.int _)⟩
  stop := fun g H _ => by rw [rangeD_len]; exact Nat.le_refl _
  lenL := fun g H _ => by rw [rangeD_len]; exact hl
theorem lim_eq : lim = 1000000 := rfl
theorem si_rg1 (hg : Gl X "range") (hm : X.mg "range" = none) (ha : SE X κ M k a w) (pa : k.rdable = true := by rfl) (hs : starEach [a] X.env = [(false, eval a X.env)] := by rfl) (he : starEach [a] X.env = (false, eval a X.env) :: starEach [] X.env := by rfl) : SI X κ M [] tg (.Call (.Name "range" p) [a] [] pos) (wiRg1 w) :=
  SI.of (pi_range1 hg hm (pa_cons ha pa_nil he) hs) fun σ H R ⟨g, env, W, F, hw, post⟩ => ⟨g, env, _, F, hw, fun v H1 g1 e1 d F1 s1 r1 ⟨n, e, hn0, hn, w1⟩ => by
    subst e
    have ev := (r1.rdb pa).toInt
    subst ev
    have hl := lim_eq
    refine ⟨n, rfl, by omega, by omega, ?_⟩
    have e0 : n.toNat = (n - 0).toNat := by simp
    rw [e0]
    exact post _ H1 g1 e1 _ _ F1 s1 trivial (fun _ _ _ _ _ _ _ _ _ _ _ _ _ _ _ => trivial) (walk_r (lim_line (by omega))) w1⟩
theorem si_rg2 (hg : Gl X "range") (hm : X.mg "range" = none) (ha : SE X κ M k a w) (hb : SE X κ M kb b wb) (st : stable k M = true := by rfl) (pa : k.rdable = true := by rfl) (pb : kb.rdable = true := by rfl) (hs : starEach [a, b] X.env = [(false, eval a X.env), (false, eval b X.env)] := by rfl) (hs2 : starEach [b] X.env = [(false, eval b X.env)] := by rfl)
    (he : starEach [a, b] X.env = (false, eval a X.env) :: starEach [b] X.env := by rfl) (he2 : starEach [b] X.env = (false, eval b X.env) :: starEach [] X.env := by rfl) : SI X κ M [] tg (.Call (.Name "range" p) [a, b] [] pos) (wiRg2 w wb) :=
  SI.of (pi_range2 hg hm (pa_cons ha (pa_cons hb pa_nil he2) he) hs hs2) fun σ H R ⟨g, env, W, F, hw, post⟩ => ⟨g, env, _, F, hw, fun v H1 g1 e1 d F1 s1 r1 w1 => ⟨g1, e1, _, F1, w1, fun u H2 g2 e2 d2 F2 s2 r2 ⟨m, n, em, en, h1, h2, h3, h4, w2⟩ => by
    subst em en
    have ev := (r1.rdb pa).toInt
    have eu := (r2.rdb pb).toInt
    subst ev eu
    have hl := lim_eq
    refine ⟨m, n, rfl, ⟨by omega, by omega, by omega, by omega⟩, ?_⟩
    refine post _ H2 g2 e2 _ _ F2 (s1.tr s2 F F1) trivial (fun _ _ _ _ _ _ _ _ _ _ _ _ _ _ _ => trivial) (walk_r ?_) w2
    rw [sizeLine_eq]; omega⟩⟩
def sameK (x y : D) : Bool := match x, y with
  | .list _, .list _ => true
  | .tuple _, .tuple _ => true
  | _, _ => false
theorem zip_len {xs ys : List D} : (zipD xs ys).length = min xs.length ys.length := by simp [zipD]
theorem zip_get {xs ys : List D} {i : Nat} {x y : D} (hx : xs[i]? = some x) (hy : ys[i]? = some y) : (zipD xs ys)[i]? = some (.tuple [x, y]) := by
  simp [zipD, List.getElem?_zipWith, hx, hy]
theorem pair_rep {K : PySem.W.Frag} {g : Rg} {H : Hp} {T : Addr} {v u : V} {x y : D} (n : H T = none) (rx : Rep K H g.own v x) (ry : Rep K H g.own u y) : RepI K (upd H T (.tup [v, u])) g.own true (.ref T) (.tuple [x, y]) :=
  .inr ⟨rfl, T, _, _, rfl, rfl, .inl upd_same, .cons (rx.keep (fun a o _ e => same_new n a o e) fun _ q => .inl q) (.cons (ry.keep (fun a o _ e => same_new n a o e) fun _ q => .inl q) .nil)⟩
def wiZip2 (a b : WE) : WI := fun e Q => a e fun x e1 => b e1 fun y e2 => ∃ xs ys, sameK x y = true ∧ seqD x = some xs ∧ seqD y = some ys ∧ Q (zipD xs ys) e2
section
variable {elt iter : Expr} {ifs : List Expr} {scope : Scope} {own : List (Str × Nat)} {wi : WI} {N : List Nat} {f : WG} {ts : List Nat} {t : WT}
def SPs (X : Cx) (κ : List SK) (M : List Nat) (ifs : List Expr) (t : WT) : Prop := PTs X ifs (cT X.K κ M t)
theorem sp_nil : SPs X κ M [] G7.tYes := ⟨fun pins s0 σ H Q I ⟨g, env, W, F, hw, post⟩ => pts_nil.run pins s0 σ H Q I (post true H g env F .refl hw)⟩
theorem sp_one {c : Expr} (h : ST X κ M c t) : SPs X κ M [c] t := pts_one h
theorem se_lc (hc : X.calm = true) (hN : X.N.Nodup) (hi : SI X κ M N tg iter wi) (ok : BlkOk X.N X.env.scope scope own)
    (hg : ∀ (s : Shared) (H : Hp) (C : Addr) (cl : List (Str × Addr)) (fp : List Addr), SG (X.blk s H scope (compEnvC scope cl C X.env) fp) κ ts tg f) (ht : ∀ (s : Shared) (H : Hp) (C : Addr) (cl : List (Str × Addr)) (fp : List Addr), SPs (X.blk s H scope (compEnvC scope cl C X.env) fp) κ M ifs t)
    (he : ∀ (s : Shared) (H : Hp) (C : Addr) (cl : List (Str × Addr)) (fp : List Addr), SE (X.blk s H scope (compEnvC scope cl C X.env) fp) κ M .fz elt w) (hv : ∀ i ∈ own.map (·.2), kindOf κ i = .v := by decide) (hts : ∀ i ∈ ts, i ∈ own.map (·.2) := by decide) (dis : ∀ i ∈ M, i ∉ N := by decide) (hs : ∀ x, foldedSetIterable iter X.env x = pure x := by intro _; rfl) :
    SE X κ M .nw (.ListComp elt [⟨tg, iter, ifs, 0⟩] scope pos) (wComp wi f (own.map (·.2)) t w) :=
  SE.of (pe_lc (g := cG X.K κ ts (isTupE tg) f) (tt := cT X.K κ M t) (te := cE X.K κ M .fz w) hc hN hi ok hg ht he hs) fun σ H Q h => comp_go hv hts dis σ H Q h
variable {M2 : List Nat} {rk : RK}
end
theorem md_append {K : PySem.W.Frag} : MtD K rAppend appendF [.fz] := by
  intro κ g env σ H0 H a xs dxs ds dxs' vs z Q F hO hH zl al r e h
  match ds, vs, r, e with
  | [d], [v], r, e =>
    simp only [appendF] at e
    split at e
    · rename_i hl
      cases e
      have hz : xs.length < sizeLine := by rw [al.length]; exact Nat.lt_of_lt_of_le hl (by rw [sizeLine_eq]; decide)
      exact ⟨a, xs, v, rfl, rfl, hH, hz, h _ _ (al.append (.cons r.1 .nil)) (by simp; omega) .non⟩
    · cases e
theorem md_popAt {K : PySem.W.Frag} : MtD K rPopAt popAtF [.fz] := by
  intro κ g env σ H0 H a xs dxs ds dxs' vs z Q F hO hH zl al r e h
  match ds, vs, r, e with
  | [.int i], [u], r, e =>
    simp only [popAtF, Option.bind_eq_some_iff, Option.map_eq_some_iff] at e
    obtain ⟨j, ej, d, ed, e⟩ := e
    cases e
    have hu : u = .int i := Rep.toInt r.1
    subst hu
    obtain ⟨v, ev, rv⟩ := al.get ed
    have ej' : L2.ixN xs.length i = some j := by rw [al.length]; exact ej
    obtain ⟨h1, h2, h3, h4⟩ := ixN_seq ej'
    have hs := sizeLine_eq
    exact ⟨a, xs, i, j, v, rfl, rfl, hH, by omega, by omega, h1, ev, h v _ (al.eraseIdx j) (Nat.le_trans (len_erase _ _) zl) rv⟩
theorem md_extend {K : PySem.W.Frag} : MtD K rExtend extendF [.nw] := by
  intro κ g env σ H0 H a xs dxs ds dxs' vs z Q F hO hH zl al r e h
  match ds, vs, r, e with
  | [.list zs], [u], r, e =>
    simp only [extendF] at e
    split at e
    · rename_i hl
      cases e
      obtain ⟨p, rfl, n, hOp, hP, ob⟩ := r.1
      cases ob with
      | @lst us _ q z2 al2 =>
        have hz : xs.length + us.length ≤ sizeLine := by rw [al.length, al2.length]; exact lim_line hl
        exact ⟨a, p, xs, _, rfl, rfl, hH, q, hz, h _ _ (al.append al2) (by rw [List.length_append]; exact hz) .non⟩
    · cases e
end
def skOf : PM → SK
  | .fz => .v
  | .rd => .r
  | .pl => .p
section
variable {P : Program} {w : World} {K : PySem.W.Frag} {mg : Str → Option Value} {base : Heap}
def startE (n : Nat) (ds : List D) : En := ds.map some ++ List.replicate (n - ds.length) none
theorem args_slot {H : Hp} {O P' : Addr → Prop} : ∀ {ms : List PM} {vs : List V} {ds : List D} {i : Nat} {d : D}, ArgsOk K H O P' ms vs ds → ds[i]? = some d → ∃ v m, vs[i]? = some v ∧ ms[i]? = some m ∧ ArgOk K H O P' m v d
  | [], [], [], i, d, _, e => by simp at e
  | m :: ms, v :: vs, d :: ds, 0, d', h, e => by
    simp at e; subst e
    exact ⟨v, m, rfl, rfl, h.1⟩
  | m :: ms, v :: vs, d :: ds, i + 1, d', h, e => by
    obtain ⟨v', m', h1, h2, h3⟩ := args_slot (i := i) (d := d') h.2 (by simpa using e)
    exact ⟨v', m', by simpa using h1, by simpa using h2, h3⟩
  | [], [], _ :: _, _, _, h, _ => h.elim
  | [], _ :: _, _, _, _, h, _ => h.elim
  | _ :: _, [], _, _, _, h, _ => h.elim
  | _ :: _, _ :: _, [], _, _, h, _ => h.elim
theorem fn_def {x qual : Str} {st : Stmt} {f : Addr} {fd : FuncData} {N ps : List Str} {lv : Nat} {κ : List SK} {M : List Nat} {rk : RK} {S : FS} {wb : WS} (ms : List PM) (F : Fun K x qual st f fd) (Sc : FnScope N ps (defScope st)) (hκ : κ.length = N.length) (hms : ms.length = ps.length)
    (hp : κ.take ms.length = ms.map skOf) (hr : rk = .fz ∨ rk = .nw) (hq : ∀ i, kindOf κ i ≠ .q)
    (body : ∀ (cdv : Value) (A : Around) (outer : List Env) (s : Shared) (H : Hp) (E : XK), Room lv (A.deeper (envOfC qual (defScope st) s.heap.objs.size f cdv)) →
      SSs (cxOf CX0 P w K mg base N qual (defScope st) f cdv A outer s H E).nox κ M rk (defBody st) wb)
    (math : ∀ ds Post, S ds Post → wb { nx := fun _ => Post .none ∧ rk = .fz, rt := fun d _ => Post d } (startE N.length ds)) (hv : 999 ∉ M := by decide) :
    FnOk P w K mg base CX0 (lv + 1) f fd ps (spOf K ms rk S) := by
  refine F.ok Sc (fun vs H Q E h => ?_) fun cdv A outer s H vs Q E hroom h => ?_
  · obtain ⟨O, P', ds, Post, _, _, ha, _⟩ := h
    rw [ha.len.1, hms]
  · obtain ⟨O, P', ds, Post, hO, hP, ha, hS, k⟩ := h
    refine ⟨_, body cdv A outer s H E hroom, ?_⟩
    have hl := ha.len
    have hle : ps.length ≤ N.length := by
      have := congrArg List.length Sc.pre
      rw [List.length_take] at this; omega
    have Fr0 : Frm K κ ⟨O, P', O, fun _ => none⟩ (startE N.length ds) (L2.start N vs) H := by
      refine ⟨by simp [startE, hκ]; omega, by simp [L2.start, hκ]; omega, fun i d e => ?_, fun i j a (e : none = some a) => (nomatch e), fun i a (e : none = some a) => (nomatch e), hO, fun _ q => q, hP⟩
      unfold startE at e
      by_cases hi : i < ds.length
      · rw [List.getElem?_append_left (by simpa using hi)] at e
        rw [List.getElem?_map] at e
        cases q : ds[i]? with
        | none => rw [q] at e; cases e
        | some d' =>
          rw [q] at e
          have e' : d' = d := by simpa using e
          subst e'
          obtain ⟨v, m, h1, h2, h3⟩ := args_slot ha q
          refine ⟨v, ?_, ?_⟩
          · unfold L2.start
            rw [List.getElem?_append_left (by rw [List.length_map]; exact (List.getElem?_eq_some_iff.mp h1).1), List.getElem?_map, h1]
            rfl
          · have hk : kindOf κ i = skOf m := by
              unfold kindOf
              have : (κ.take ms.length)[i]? = some (skOf m) := by rw [hp, List.getElem?_map, h2]; rfl
              rw [List.getElem?_take] at this
              split at this
              · rw [this]; rfl
              · cases this
            rw [hk]
            have own : ∀ a, Rg.own ⟨O, P', O, fun _ => none⟩ a → O a := fun a q => q.elim id fun ⟨_, (e : none = some a)⟩ => nomatch e
            have up : ∀ {v d}, Rep K H O v d → Rep K H (Rg.own ⟨O, P', O, fun _ => none⟩) v d := fun r => r.keep (fun _ _ _ q => q) fun a q => .inl (own a q)
            cases m with
            | fz => exact up h3
            | rd =>
              rcases h3 with h3 | ⟨a, e1, np, ho, r⟩
              · exact .inl (up h3)
              · exact .inr ⟨a, e1, np, ho, r.keep (fun _ q => q) (fun _ _ _ q => q) fun a q => .inl (own a q)⟩
            | pl => exact h3
      · rw [List.getElem?_append_right (by simpa using hi)] at e
        rw [List.getElem?_replicate] at e
        split at e <;> cases e
    have nb : ∀ a, baseO κ ⟨O, P', O, fun _ => none⟩ a → O a := fun a q => q.elim id fun ⟨i, hk, _⟩ => absurd hk (hq i)
    have ob : ∀ a, O a → baseO κ ⟨O, P', O, fun _ => none⟩ a := fun a q => .inl q
    have fin : ∀ {g' : Rg} {env' : En} {σ' : St} {H' : Hp} {v : V} {d : D}, Frm K κ g' env' σ' H' → SStep κ M ⟨O, P', O, fun _ => none⟩ g' H H' → ResR K κ rk ⟨O, P', O, fun _ => none⟩ H H' v d → Post d → Q v H' := by
      intro g' env' σ' H' v d F' s' r pd
      refine k v H' d pd (fun b o e np => s'.keep b o e np (fun _ _ (z : none = some b) => nomatch z) fun h => absurd h hv) (fun b p => s'.pool b p) ?_
      rcases hr with e | e <;> subst e
      · exact Rep.keep (fun _ _ _ q => q) (fun a q => .inl (ob a q)) r
      · obtain ⟨p, e1, n, r⟩ := r
        have n' : H p = none := n.elim id fun ⟨_, _, (z : none = some p)⟩ => nomatch z
        exact ⟨p, e1, n', r.keep (fun _ q => q) (fun _ _ _ q => q) fun a (q : O a ∨ a = p) => .inl (q.imp (ob a) id)⟩
    exact ⟨⟨O, P', O, fun _ => none⟩, startE N.length ds, _, Fr0, math ds Post hS, fun g' env' σ' H' F' s' ⟨pd, er⟩ => fin F' s' (by subst er; exact .non) pd, fun _ _ _ _ _ _ q => q.elim, fun _ _ _ _ _ _ q => q.elim,
      fun g' env' σ' H' v d F' s' r pd => fin F' s' r pd⟩
/-- the promise of the law: nothing is said of what it was handed -/
def spOfL (K : PySem.W.Frag) (ms : List PM) (k : RK) (S : FS) : Sp := fun vs H Q _ => ∃ (O P : Addr → Prop) (ds : List D) (Post : D → Prop),
  (∀ a, O a → Tk H a) ∧ (∀ a, P a → O a ∧ Pool H a) ∧ ArgsOk K H O P ms vs ds ∧ S ds Post ∧
  ∀ v H' d, Post d → (∀ b, P b → Pool H' b) → ResC K k H H' O v d → Q v H'
theorem fn_defL {x qual : Str} {st : Stmt} {f : Addr} {fd : FuncData} {N ps : List Str} {lv : Nat} {κ : List SK} {M : List Nat} {rk : RK} {S : FS} {wb : WS} (ms : List PM) (F : Fun K x qual st f fd) (Sc : FnScope N ps (defScope st)) (hκ : κ.length = N.length) (hms : ms.length = ps.length)
    (hp : κ.take ms.length = ms.map skOf) (hr : rk = .fz ∨ rk = .nw) (hq : ∀ i, kindOf κ i ≠ .q)
    (body : ∀ (cdv : Value) (A : Around) (outer : List Env) (s : Shared) (H : Hp) (E : XK), Room lv (A.deeper (envOfC qual (defScope st) s.heap.objs.size f cdv)) →
      SSs (cxOf CX0 P w K mg base N qual (defScope st) f cdv A outer s H E).nox κ M rk (defBody st) wb)
    (math : ∀ ds Post, S ds Post → wb { nx := fun _ => Post .none ∧ rk = .fz, rt := fun d _ => Post d } (startE N.length ds)) :
    FnOk P w K mg base CX0 (lv + 1) f fd ps (spOfL K ms rk S) := by
  refine F.ok Sc (fun vs H Q E h => ?_) fun cdv A outer s H vs Q E hroom h => ?_
  · obtain ⟨O, P', ds, Post, _, _, ha, _⟩ := h
    rw [ha.len.1, hms]
  · obtain ⟨O, P', ds, Post, hO, hP, ha, hS, k⟩ := h
    refine ⟨_, body cdv A outer s H E hroom, ?_⟩
    have hl := ha.len
    have hle : ps.length ≤ N.length := by
      have := congrArg List.length Sc.pre
      rw [List.length_take] at this; omega
    have Fr0 : Frm K κ ⟨O, P', O, fun _ => none⟩ (startE N.length ds) (L2.start N vs) H := by
      refine ⟨by simp [startE, hκ]; omega, by simp [L2.start, hκ]; omega, fun i d e => ?_, fun i j a (e : none = some a) => (nomatch e), fun i a (e : none = some a) => (nomatch e), hO, fun _ q => q, hP⟩
      unfold startE at e
      by_cases hi : i < ds.length
      · rw [List.getElem?_append_left (by simpa using hi)] at e
        rw [List.getElem?_map] at e
        cases q : ds[i]? with
        | none => rw [q] at e; cases e
        | some d' =>
          rw [q] at e
          have e' : d' = d := by simpa using e
          subst e'
          obtain ⟨v, m, h1, h2, h3⟩ := args_slot ha q
          refine ⟨v, ?_, ?_⟩
          · unfold L2.start
            rw [List.getElem?_append_left (by rw [List.length_map]; exact (List.getElem?_eq_some_iff.mp h1).1), List.getElem?_map, h1]
            rfl
          · have hk : kindOf κ i = skOf m := by
              unfold kindOf
              have : (κ.take ms.length)[i]? = some (skOf m) := by rw [hp, List.getElem?_map, h2]; rfl
              rw [List.getElem?_take] at this
              split at this
              · rw [this]; rfl
              · cases this
            rw [hk]
            have own : ∀ a, Rg.own ⟨O, P', O, fun _ => none⟩ a → O a := fun a q => q.elim id fun ⟨_, (e : none = some a)⟩ => nomatch e
            have up : ∀ {v d}, Rep K H O v d → Rep K H (Rg.own ⟨O, P', O, fun _ => none⟩) v d := fun r => r.keep (fun _ _ _ q => q) fun a q => .inl (own a q)
            cases m with
            | fz => exact up h3
            | rd =>
              rcases h3 with h3 | ⟨a, e1, np, ho, r⟩
              · exact .inl (up h3)
              · exact .inr ⟨a, e1, np, ho, r.keep (fun _ q => q) (fun _ _ _ q => q) fun a q => .inl (own a q)⟩
            | pl => exact h3
      · rw [List.getElem?_append_right (by simpa using hi)] at e
        rw [List.getElem?_replicate] at e
        split at e <;> cases e
    have nb : ∀ a, baseO κ ⟨O, P', O, fun _ => none⟩ a → O a := fun a q => q.elim id fun ⟨i, hk, _⟩ => absurd hk (hq i)
    have ob : ∀ a, O a → baseO κ ⟨O, P', O, fun _ => none⟩ a := fun a q => .inl q
    have fin : ∀ {g' : Rg} {env' : En} {σ' : St} {H' : Hp} {v : V} {d : D}, Frm K κ g' env' σ' H' → SStep κ M ⟨O, P', O, fun _ => none⟩ g' H H' → ResR K κ rk ⟨O, P', O, fun _ => none⟩ H H' v d → Post d → Q v H' := by
      intro g' env' σ' H' v d F' s' r pd
      refine k v H' d pd (fun b p => s'.pool b p) ?_
      rcases hr with e | e <;> subst e
      · exact Rep.keep (fun _ _ _ q => q) (fun a q => .inl (ob a q)) r
      · obtain ⟨p, e1, n, r⟩ := r
        have n' : H p = none := n.elim id fun ⟨_, _, (z : none = some p)⟩ => nomatch z
        exact ⟨p, e1, n', r.keep (fun _ q => q) (fun _ _ _ q => q) fun a (q : O a ∨ a = p) => .inl (q.imp (ob a) id)⟩
    exact ⟨⟨O, P', O, fun _ => none⟩, startE N.length ds, _, Fr0, math ds Post hS, fun g' env' σ' H' F' s' ⟨pd, er⟩ => fin F' s' (by subst er; exact .non) pd, fun _ _ _ _ _ _ q => q.elim, fun _ _ _ _ _ _ q => q.elim,
      fun g' env' σ' H' v d F' s' r pd => fin F' s' r pd⟩
end
theorem script_rep {K : PySem.W.Frag} {H : Hp} {a : Addr} {ns : List Int} (h : Rd H a (.lst (ns.map V.int))) (hl : ns.length ≤ 63) : ObjR K H (fun b => b = a) a (.list (ns.map .int)) :=
  .lst h (by rw [List.length_map, sizeLine_eq]; omega) (repInts ns)
theorem rd_tk {H : Hp} {a : Addr} {xs : List V} (h : Rd H a (.lst xs)) : Tk H a := by
  rcases h with h | ⟨o, h⟩
  · exact ⟨by rw [h]; simp, fun ys z => by rw [h] at z; cases z⟩
  · exact ⟨by rw [h]; simp, fun ys z => by rw [h] at z; cases z⟩
def lawS : FS := fun ds Post => ∃ ns : List Int, ds = [.list (ns.map .int)] ∧ ns.length ≤ 63 ∧ Post (.bool true)
end G7

set_option maxRecDepth 100000
namespace G7
open PySem PySem.Spec PyProof.Rows L2

/-- a def as its callers use it -/
structure FnB (P : Program) (w : World) (K : PySem.W.Frag) (mg : Str → Option Value) (base : Heap) (lv : Nat) (x : Str) (ps : List Str) (ms : List PM) (k : RK) (S : FS) : Prop where
  ex : ∃ f fd, FnOk P w K mg base CX0 lv f fd ps (spOf K ms k S) ∧ mg x = some (.ref f) ∧ PySem.W.keepIn K (.ref f) = true ∧ L2.Binds K fd ps []
section
variable {X : Cx} {κ : List SK} {M Me : List Nat} {k rk ka kb : RK} {pos : Pos} {a b e : Expr} {w wa wb : WE}
theorem se_fn {lv lc : Nat} {ps : List Str} {ms : List PM} {S : FS} {x : Str} {p : Pos} {e : Expr} {es : List Expr} {ks : List RK} {wl : WA} (G : FnB X.prog X.w X.K X.mg X.base lc x ps ms k S) (hr : Room lv X.A) (hg : Gl X x) (ha : SA X κ M ks (e :: es) wl) (hl : lc ≤ lv := by decide)
    (hp : passA ks ms = true := by rfl) (kk : k = .fz ∨ k = .nw := by first | exact .inl rfl | exact .inr rfl) (hdb : (x == ("__debug__" : Str)) = false := by decide)
    (he : starEach (e :: es) X.env = (false, eval e X.env) :: starEach es X.env := by rfl) (hpl : (backTo pos (starEach es X.env)).any (·.1) = false := by rfl) : SE X κ M k (.Call (.Name x p) (e :: es) [] pos) (wCall S wl) := by
  obtain ⟨f, fd, F, hm, hk, hb⟩ := G.ex
  exact se_call F (hr.mono hl) hg hm hk hb ha hp kk hdb he hpl
/-- a new list of three ints is handed over as a pool -/
def wNp (a : WE) : WE := fun e Q => a e fun d e1 => ∃ x y z : Int, d = .list [.int x, .int y, .int z] ∧ Q .none e1
theorem noq {κ : List SK} (h : κ.all (· != .q) = true) (i : Nat) : kindOf κ i ≠ .q := by
  unfold kindOf
  cases e : κ[i]? with
  | none => simp
  | some k =>
    have := List.all_eq_true.mp h k (List.mem_of_getElem? e)
    simpa using this
theorem room65 {lv : Nat} {A : Around} (hr : Room lv A) : A.units + 65 < cLine := by have := hr.un; omega
def rRepR : R2 := fun x y H Q => ∃ l k xs, x = .ref l ∧ y = .int k ∧ Rd H l (.lst xs) ∧ -(2 ^ 63) ≤ k ∧ k < 2 ^ 63 ∧ xs.length * k.toNat ≤ sizeLine ∧ ∀ p, H p = none → Q (.ref p) (upd H p (.lst (List.replicate k.toNat xs).flatten))
theorem op_repR : OpR X (binaryOp .Mult) rRepR := by
  intro pins s σ H x y v u Q I rx ry h
  obtain ⟨l, k, xs, rfl, rfl, hH, h1, h2, hz, q⟩ := h
  cases rx
  obtain ⟨t, rfl⟩ := ry
  obtain ⟨z, its, n, r, e⟩ := hH.ok I.hok
  have hl := r.length
  have hlen : its.toArray.size * k.toNat ≤ sizeLine := by rw [List.size_toArray, ← hl]; exact hz
  have hcap : ¬ its.toArray.size * k.toNat > (2 ^ 63 - 1) / 8 := by
    have : (sizeLine : Nat) ≤ (2 ^ 63 - 1) / 8 := by decide
    omega
  have hfit : ¬ (!Builtin.List.listFitsIndex k) = true := by
    rw [fitsIndex_both h1 h2]
    exact Bool.false_ne_true
  have hlong : ¬ Builtin.List.listTooLong (its.toArray.size * k.toNat) = true := by
    rw [notLongL hlen]
    exact Bool.false_ne_true
  have hnew : List.foldl (fun x1 x2 => x1 ++ x2) #[] (List.replicate (if its.toArray.isEmpty = true then 0 else k.toNat) its.toArray) = (List.replicate k.toNat its).flatten.toArray := by
    have f0 : ∀ m : Nat, List.foldl (fun x1 x2 => x1 ++ x2) #[] (List.replicate m its.toArray) = (List.replicate m its).flatten.toArray := fun m => by
      have := foldl_rep its m []
      rw [List.nil_append] at this
      exact this
    rw [f0]
    cases its with
    | nil => simp
    | cons a r' => rw [if_neg (by simp)]
  refine wpAny_binaryOp_repeat_ref (T := "list") (U := "int") (by decide) ⟨_, e, rfl⟩ (fun s' => typeIs_int s' k t) noFill_list_mul F.fills_int_mul F.slot_int_rmul repeat_list F.slot_int_index.lookup
    (call_meets F.slot_int_rmul (typeIs_int s k t) F.entry_int_rmul (F.args_int_rmul_2 _ _) (int___rmul___int_list k t l its.toArray n)
      ⟨e, rfl, ⟨_, e, rfl⟩, call_meets F.slot_list_mul ⟨_, e, rfl⟩ F.entry_list_mul (F.args_list_mul_2 _ _) (AutoListH.list___mul___list_int_3 l its.toArray n k t hfit hcap hlong) ⟨e, ?_⟩⟩)
  rw [hnew]
  exact ⟨.ref _, _, I.lnew (t' := s.toks) (r.rep k.toNat) (by rw [PyProof.Rows.lm_len_rep_flat, Nat.mul_comm]; exact hz), rfl, q _ I.fresh⟩
def repLD : D → D → Option D
  | .list a, .int k => if a.length ≤ 1000 ∧ -1000 ≤ k ∧ k ≤ 1000 then some (.list (List.replicate k.toNat a).flatten) else none
  | _, _ => none
theorem od_rep {K : PySem.W.Frag} : OpD K rRepR repLD .nw := by
  intro κ g env σ H x y dx dy dz Q F rx ry e h
  match dx, dy, e, rx, ry with
  | .list ds, .int m, e, rx, ry =>
    simp only [repLD] at e
    split at e
    · rename_i hl
      cases e
      obtain ⟨a, xs, rfl, ra, za, la⟩ := rx.toLst
      rw [ry.toInt]
      obtain ⟨h1, h2, h3⟩ := hl
      rw [← la.length] at h1
      have hz : xs.length * m.toNat ≤ sizeLine := Nat.le_trans (Nat.mul_le_mul h1 (show m.toNat ≤ 1000 by omega)) (by rw [sizeLine_eq]; decide)
      exact ⟨a, m, xs, rfl, rfl, ra, by omega, by omega, hz, fun p np => ok_lstN F (la.rep _) (by rw [PyProof.Rows.lm_len_rep_flat, Nat.mul_comm]; exact hz) np h⟩
    · cases e
def mulID : D → D → Option D
  | .int i, .int j => if okMul i j = true then some (.int (i * j)) else none
  | _, _ => none
theorem od_mulI {K : PySem.W.Frag} : OpD K (rI CMul fun i j => .int (i * j)) mulID .fz := by
  intro κ g env σ H x y dx dy dz Q F rx ry e h
  cases dx <;> cases dy <;> simp only [mulID] at e <;> first
    | (split at e
       · rename_i hm
         cases e; rw [rx.toInt, ry.toInt]; exact ⟨_, _, rfl, rfl, by simpa [okMul, CMul] using hm, ok_same F (.int _) h⟩
       · cases e)
    | cases e
def wLstRg (it : WI) : WE := fun e Q => it e fun xs e1 => Q (.list xs) e1
theorem rg_rep {K : PySem.W.Frag} {H : Hp} {S : Addr → Prop} (a b : Int) : RepAll K H S (rgV a b) (rangeD a b) := by
  unfold rgV rangeD
  induction (List.range (b - a).toNat) with
  | nil => exact .nil
  | cons x r ih => exact .cons (.int _) ih
theorem se_lstRg1 {p p2 pos2 : Pos} (hg : Gl X "list") (hm : X.mg "list" = none) (hg2 : Gl X "range") (hm2 : X.mg "range" = none) (ha : SE X κ M ka a wa) (pa : ka.rdable = true := by rfl) (na : starEach [.Call (.Name "range" p2) [a] [] pos2] X.env = (false, eval (.Call (.Name "range" p2) [a] [] pos2) X.env) :: starEach [] X.env := by rfl)
    (na2 : starEach [a] X.env = (false, eval a X.env) :: starEach [] X.env := by rfl) (hc : X.calm = true := by rfl) : SE X κ M .nw (.Call (.Name "list" p) [.Call (.Name "range" p2) [a] [] pos2] [] pos) (wLstRg (wiRg1 wa)) :=
  SE.of (pe_listRg hc hg hm (prg_1 hg2 hm2 ha na2) na) fun σ H Q ⟨g, env, W, F, hw, post⟩ => ⟨g, env, _, F, hw, fun v H1 g1 e1 d F1 s1 r1 ⟨n, e, hn0, hn, w1⟩ => by
    subst e
    have ev := (r1.rdb pa).toInt
    subst ev
    have hl := lim_eq
    refine ⟨n, rfl, ⟨by omega, by omega, by omega, by omega, by omega⟩, fun q nq => ok_lstN F1 (rg_rep 0 n) (by rw [rgV_length, sizeLine_eq]; omega) nq fun v H2 g2 F2 s2 r2 => ?_⟩
    exact post v H2 g2 e1 _ F2 (s1.tr (s2.mono fun _ q => nomatch q) F F1) (r2.back fun p q => s1.there F F1 q) w1⟩
def wPlIx (i : Nat) : WE := fun e Q => e[i]? = some (some .none) ∧ ∀ x : Int, Q (.int x) e
theorem se_plix {i : Nat} {x : Str} {px p2 : Pos} {c : Int} {j : Nat} (ho : PE X (.Name x px) (tVar i)) (hk : kindOf κ i = .p) (hc : c = 0 ∨ c = 1 ∨ c = 2 := by decide) (hx : PlainIx (.Constant (.int c) j p2) := by exact fun _ _ => rfl) : SE X κ M .fz (.Subscript (.Name x px) (.Constant (.int c) j p2) pos) (wPlIx i) :=
  SE.of (pe_ix ix_list ho pe_int hx) fun σ H Q ⟨g, env, W, F, ⟨he, hw⟩, post⟩ => by
    obtain ⟨v, sv, sl⟩ := F.ev i _ he
    rw [hk] at sl
    obtain ⟨q, rfl, hp, _⟩ := sl
    obtain ⟨_, x0, x1, x2, hH⟩ := F.pl q hp
    have fin : ∀ y : Int, Q (.int y) H := fun y => post _ H g env _ F .refl (.int y) (hw y)
    rcases hc with rfl | rfl | rfl
    · exact ⟨_, sv, q, _, 0, .int x0, rfl, rfl, .inl (.inl hH), rfl, fin x0⟩
    · exact ⟨_, sv, q, _, 1, .int x1, rfl, rfl, .inl (.inl hH), rfl, fin x1⟩
    · exact ⟨_, sv, q, _, 2, .int x2, rfl, rfl, .inl (.inl hH), rfl, fin x2⟩
def wPlSet (i : Nat) (a : WE) : WS := fun W e => a e fun d e1 => ∃ y : Int, d = .int y ∧ e1[i]? = some (some .none) ∧ W.nx e1
theorem Frm.poolSet {K : PySem.W.Frag} {g : Rg} {env : En} {σ : St} {H : Hp} {q : Addr} {xs : List V} (F : Frm K κ g env σ H) (hp : g.P q) (hx : ∃ x y z : Int, xs = [.int x, .int y, .int z]) : Frm K κ g env σ (L2.upd H q (.lst xs)) :=
  F.next (fun b o e np => by rw [upd_ne (fun z => np (by rw [z]; exact hp))]; exact e) (fun b p => by
    by_cases hb : b = q
    · subst hb
      obtain ⟨x, y, z, e⟩ := hx
      exact ⟨x, y, z, by rw [upd_same, e]⟩
    · obtain ⟨x, y, z, e⟩ := (F.pl b p).2
      exact ⟨x, y, z, by rw [upd_ne hb]; exact e⟩) rfl rfl rfl (fun a p => (F.pl a p).1) F.il fun a q => .inl q
theorem ss_plset {i : Nat} {x : Str} {px p2 spos : Pos} {c : Int} {j : Nat} (ho : PE X (.Name x px) (tVar i)) (hv : SE X κ Me .fz e w) (hk : kindOf κ i = .p) (hc : c = 0 ∨ c = 1 ∨ c = 2 := by decide) (sub : ∀ i ∈ Me, i ∈ M := by decide)
    (ha : ∀ v, assign (.Subscript (.Name x px) (.Constant (.int c) j p2) spos) X.env v = (do
      let ov ← holding [v] (eval (.Name x px) X.env)
      let iv ← holding [v, ov] (eval (.Constant (.int c) j p2) X.env)
      standAt spos
      holding [v, ov, iv] (setItem ov iv v)
      release [v, ov, iv] []) := by intro _; rfl) (hs : swapsWithSole [.Subscript (.Name x px) (.Constant (.int c) j p2) spos] e pos.line X.env = pure false := by rfl) (hw : swappedStores [.Subscript (.Name x px) (.Constant (.int c) j p2) spos] e X.env = pure none := by rfl)
    (h1 : (assignEach [.Subscript (.Name x px) (.Constant (.int c) j p2) spos] X.env).map (·.2) = [assign (.Subscript (.Name x px) (.Constant (.int c) j p2) spos) X.env] := by rfl) : SS X κ M k (.Assign [.Subscript (.Name x px) (.Constant (.int c) j p2) spos] e pos) (wPlSet i w) :=
  SS.of (ps_asg hv (pg_sub ho pe_int set_list ha) hs hw h1) fun D σ H ⟨g, env, W, F, hw, n, b, _, r⟩ => ⟨g, env, _, F, hw, fun v H1 g1 e1 d F1 s1 r1 ⟨y, ed, he, w1⟩ => by
    subst ed
    have ev : v = .int y := Rep.toInt r1
    subst ev
    obtain ⟨v0, sv, sl⟩ := F1.ev i _ he
    rw [hk] at sl
    obtain ⟨q, rfl, hp, _⟩ := sl
    obtain ⟨_, x0, x1, x2, hH⟩ := F1.pl q hp
    have go : ∀ xs : List V, (∃ x y z : Int, xs = [.int x, .int y, .int z]) → D.nx σ (upd H1 q (.lst xs)) := fun xs hx => by
      have F2 := F1.poolSet hp hx
      refine n g1 e1 σ _ F2 (((s1.mono sub).toS F F1).trans ⟨fun _ q => q, fun _ q => .inl q, fun _ q => q, fun _ q => .inl q, fun _ _ q => .inl q, rfl, fun _ _ => rfl, fun b o e np _ _ => by rw [upd_ne (fun z => np (by rw [z]; exact hp))]; exact e, fun b nb => ?_, fun b p => (F2.pl b p).2⟩) w1
      by_cases hb : b = q
      · subst hb; rw [upd_same]; simp
      · rw [upd_ne hb]; exact nb
    rcases hc with rfl | rfl | rfl
    · exact ⟨_, sv, q, _, 0, 0, rfl, rfl, hH, rfl, go _ ⟨y, x1, x2, rfl⟩⟩
    · exact ⟨_, sv, q, _, 1, 1, rfl, rfl, hH, rfl, go _ ⟨x0, y, x2, rfl⟩⟩
    · exact ⟨_, sv, q, _, 2, 2, rfl, rfl, hH, rfl, go _ ⟨x0, x1, y, rfl⟩⟩⟩
end
theorem bt_len : bootBuiltins "len" = some (.builtin "len") := by decide +kernel
theorem bt_all : bootBuiltins "all" = some (.builtin "all") := by decide +kernel
theorem bt_max : bootBuiltins "max" = some (.builtin "max") := by decide +kernel
theorem bt_min : bootBuiltins "min" = some (.builtin "min") := by decide +kernel
theorem bt_sorted : bootBuiltins "sorted" = some (.builtin "sorted") := by decide +kernel
theorem bt_tuple : bootBuiltins "tuple" = some (.type "tuple") := by decide +kernel
theorem bt_list : bootBuiltins "list" = some (.type "list") := by decide +kernel
theorem bt_int : bootBuiltins "int" = some (.type "int") := by decide +kernel
theorem bt_bool : bootBuiltins "bool" = some (.type "bool") := by decide +kernel
theorem kt_int : (["NoneType", "bool", "int", "str", "list", "tuple", "dict"].all fun t => kitB t "int" == some (isT "int" t)) = true := by decide +kernel
theorem kt_bool : (["NoneType", "bool", "int", "str", "list", "tuple", "dict"].all fun t => kitB t "bool" == some (isT "bool" t)) = true := by decide +kernel
theorem kt_tuple : (["NoneType", "bool", "int", "str", "list", "tuple", "dict"].all fun t => kitB t "tuple" == some (isT "tuple" t)) = true := by decide +kernel
theorem kt_list : (["NoneType", "bool", "int", "str", "list", "tuple", "dict"].all fun t => kitB t "list" == some (isT "list" t)) = true := by decide +kernel
def noList (K : PySem.W.Frag) : Bool := K.all fun p => !(p.2.cls == .type "list")
theorem no_list {K : PySem.W.Frag} (h : noList K = true) {a : Addr} {o : Obj} (e : K.lookup a = some o) : o.cls ≠ .type "list" := by
  induction K with
  | nil => simp at e
  | cons p r ih =>
    unfold noList at h
    simp only [List.all_cons, Bool.and_eq_true] at h
    obtain ⟨b, ob⟩ := p
    rw [List.lookup_cons] at e
    split at e
    · cases e
      intro z
      have := h.1
      simp only [z] at this
      revert this; decide +kernel
    · exact ih h.2 e
theorem law_sp {K : PySem.W.Frag} (hn : noList K = true) {H : Hp} {a : Addr} {ns : List Int} (hl : ns.length ≤ 63) (h : SqL K H a (ns.map V.int)) : spOfL K [.rd] .fz lawS [.ref a] H (fun v _ => v = .bl true) fun _ _ _ => False := by
  rcases h with h | ⟨o, its, n, e, c, _⟩
  · refine ⟨fun b => b = a, fun _ => False, [.list (ns.map .int)], fun d => d = .bool true, fun b q => by rw [q]; exact rd_tk h, fun _ q => q.elim, ⟨.inr ⟨a, rfl, id, rfl, script_rep h hl⟩, trivial⟩, ⟨ns, rfl, hl, rfl⟩, fun v H' d pd _ r => ?_⟩
    subst pd
    exact Rep.toBl r
  · exact absurd c (no_list hn e)
theorem law_walk {l : PySem.W.OpenLaw} {k : Nat} {q : Program} {loose : List Str} {XP : (Str → Option Value) → Heap → Prop} {YP : World → Heap → Prop} {d : DefRec} {K : Params → PySem.W.Frag}
    (hn : l.most = some 63) (hdf : d.params.defaults = []) (hr : Room k callerA) (hY : ∀ (w : World) (h : Heap), YP w h → (K w.params).In h) (hK : ∀ w : World, noList (K w.params) = true)
    (F : ∀ (w : World) (mg : Str → Option Value) (fa : Addr) (h : Heap), (K w.params).In h → h.Ns mainGlobals mg → mg d.name = some (.ref fa) →
      ∃ fd : FuncData, (∀ (s : Shared) (u : Value), BindsTo s fd ⟨[u], []⟩ [("script", u)]) ∧ ∀ base : Heap, (K w.params).In base → base.Ns mainGlobals mg → FnOk l.prog w (K w.params) mg base CX0 k fa fd ["script"] (spOfL (K w.params) [.rd] .fz lawS)) :
    PySem.W.WalkO q loose XP YP l.row.toRowW d [] (fun f vs => PySem.call f vs) :=
  L2.walk_of (n := 63) (k := k) (x := "script") (CX := fun _ => CX0) (sp := fun w => spOfL (K w.params) [.rd] .fz lawS) hn (by decide) hdf hr hY F (fun w _ a ns hl _ hS => law_sp (hK w) hl hS) fun _ _ _ _ _ z => z
end G7

set_option maxRecDepth 100000
namespace G7
open PySem PySem.Spec PyProof.Rows L2
section
variable {X : Cx}
def tupXD : List D → Option D
  | [.list xs] => some (xtD xs)
  | _ => none
variable {κ : List SK} {M Ma : List Nat} {k ka kb : RK} {e a b : Expr} {w wa wb : WE}
/-- the first place at which it stands -/
def idxD (xs : List D) (d : D) : Option D := (xs.findIdx? fun z => PyData.eqv z d).map fun (j : Nat) => PyData.int (j : Int)
def indexD : D → D → Option D
  | .list xs, d => if okD (.list xs) = true ∧ okD d = true then idxD xs d else none
  | .dict [(.none, .tuple xs)], d => if okD (.tuple xs) = true ∧ okD d = true then idxD xs d else none
  | _, _ => none
def wIdx (f : D → D → Option D) (a b : WE) : WE := fun e Q => a e fun x e1 => ((∃ xs, x = .list xs) ∨ ∃ xs, x = xtD xs) ∧ b e1 fun y e2 => ∃ z, f x y = some z ∧ Q z e2
@[simp] theorem r_idx {f : D → D → Option D} {a b : WE} {e : En} {Q : D → En → Prop} : wIdx f a b e Q = a e fun x e1 => ((∃ xs, x = .list xs) ∨ ∃ xs, x = xtD xs) ∧ b e1 fun y e2 => ∃ z, f x y = some z ∧ Q z e2 := rfl
end
end G7

set_option maxRecDepth 100000
namespace G7
open PySem PySem.Spec PyProof.Rows L2
/-- is this the key -/
def keyB (k : Key) (d : D) : Bool := match k, d with
  | .inl i, .int j => decide (j = i)
  | .inr x, .str y => decide (y = x)
  | _, _ => false
theorem keyB_kD (k k' : Key) : keyB k (kD k') = decide (k' = k) := by
  cases k <;> cases k' <;> simp [keyB, kD]
def lookD (m : List (D × D)) (k : Key) : Option D := (m.find? fun p => keyB k p.1).map (·.2)
def putDD (m : List (D × D)) (k : Key) (v : D) : List (D × D) := if (m.any fun p => keyB k p.1) = true then m.map (fun p => if keyB k p.1 = true then (p.1, v) else p) else m ++ [(kD k, v)]
section
variable {K : PySem.W.Frag} {H : Hp} {S : Addr → Prop}
theorem look_rep (k : Key) : ∀ {kvs : List (Key × V)} {ds : List D}, RepAll K H S (kvs.map (·.2)) ds → (∀ d, lookD ((kvs.map fun p => kD p.1).zip ds) k = some d → ∃ v, valV kvs k = some v ∧ Rep K H S v d) ∧ (valV kvs k).isSome = (lookD ((kvs.map fun p => kD p.1).zip ds) k).isSome
  | [], _, .nil => ⟨fun d h => by simp [lookD] at h, rfl⟩
  | p :: kvs, _, .cons r t => by
    obtain ⟨h1, h2⟩ := look_rep k t
    by_cases e : p.1 = k
    · have : keyB k (kD p.1) = true := by rw [keyB_kD]; simp [e]
      refine ⟨fun d h => ?_, ?_⟩
      · simp [lookD, List.find?_cons, this] at h
        subst h
        exact ⟨_, valV_pos e, r⟩
      · rw [valV_pos e]; simp [lookD, List.find?_cons, this]
    · have : keyB k (kD p.1) = false := by rw [keyB_kD]; simp [e]
      rw [valV_neg e]
      refine ⟨fun d h => h1 d ?_, ?_⟩
      · simp [lookD, List.find?_cons, this] at h ⊢
        exact h
      · rw [h2]; simp [lookD, List.find?_cons, this]
theorem any_keys (k : Key) : ∀ {kvs : List (Key × V)} {ds : List D}, (kvs.length = ds.length) → (((kvs.map fun p => kD p.1).zip ds).any fun p => keyB k p.1) = kvs.any fun kv => decide (kv.1 = k)
  | [], _, _ => by simp
  | p :: kvs, [], h => by simp at h
  | p :: kvs, d :: ds, h => by
    have := any_keys k (kvs := kvs) (ds := ds) (by simpa using h)
    simp only [List.map_cons, List.zip_cons_cons, List.any_cons, keyB_kD, this]
theorem put_rep {k : Key} {v : V} {d : D} (rv : Rep K H S v d) {kvs : List (Key × V)} {ds : List D} (al : RepAll K H S (kvs.map (·.2)) ds) :
    ∃ ds', RepAll K H S ((putK kvs k v).map (·.2)) ds' ∧ ((putK kvs k v).map fun p => kD p.1).zip ds' = putDD ((kvs.map fun p => kD p.1).zip ds) k d := by
  have hl : kvs.length = ds.length := by simpa using al.length
  unfold putK putDD
  rw [any_keys k hl]
  by_cases h : (kvs.any fun kv => decide (kv.1 = k)) = true
  · rw [if_pos h, if_pos h]
    have key : ∀ {kvs : List (Key × V)} {ds : List D}, RepAll K H S (kvs.map (·.2)) ds → ∃ ds', RepAll K H S ((kvs.map fun kv => if kv.1 = k then (kv.1, v) else kv).map (·.2)) ds' ∧ ((kvs.map fun kv => if kv.1 = k then (kv.1, v) else kv).map fun p => kD p.1).zip ds' = ((kvs.map fun p => kD p.1).zip ds).map fun p => if keyB k p.1 = true then (p.1, d) else p := by
      intro kvs
      induction kvs with
      | nil => intro ds al; cases al; exact ⟨[], .nil, rfl⟩
      | cons p kvs ih =>
        intro ds al
        cases al with
        | @cons _ _ d0 _ r t =>
          obtain ⟨ds', h1, h2⟩ := ih t
          by_cases e : p.1 = k
          · refine ⟨d :: ds', ?_, ?_⟩
            · simp only [List.map_cons, if_pos e]; exact .cons rv h1
            · simp only [List.map_cons, List.zip_cons_cons, if_pos e, keyB_kD, h2]; simp [e]
          · refine ⟨d0 :: ds', ?_, ?_⟩
            · simp only [List.map_cons, if_neg e]; exact .cons r h1
            · simp only [List.map_cons, List.zip_cons_cons, if_neg e, keyB_kD, h2]; simp [e]
    exact key al
  · rw [if_neg h, if_neg h]
    refine ⟨ds ++ [d], ?_, ?_⟩
    · rw [List.map_append]; exact al.append (.cons rv .nil)
    · rw [List.map_append, List.zip_append (by simpa using hl)]; rfl
end
def keyOf : D → Option Key
  | .int i => some (.inl i)
  | .str x => some (.inr x)
  | _ => none
/-- the marks of other dicts -/
def plainM : List (D × D) → Bool
  | (.none, _) :: _ => false
  | (.bool true, _) :: _ => false
  | _ => true
def dgetD : D → D → Option D
  | .dict m, y => if plainM m = true then (keyOf y).bind fun k => lookD m k else none
  | _, _ => none
def dinD : D → D → Option D
  | y, .dict m => if plainM m = true then (keyOf y).map fun k => .bool (lookD m k).isSome else none
  | _, _ => none
def dninD : D → D → Option D
  | y, .dict m => if plainM m = true then (keyOf y).map fun k => .bool (!(lookD m k).isSome) else none
  | _, _ => none
def wDput (i : Nat) (v ix : WE) : WS := fun W e => v e fun y e1 => (∃ m, e1[i]? = some (some (.dict m)) ∧ plainM m = true) ∧ ix e1 fun j e2 => ∃ k m, keyOf j = some k ∧ e2[i]? = some (some (.dict m)) ∧ plainM m = true ∧ m.length < lim ∧ W.nx (e2.set i (some (.dict (putDD m k y))))
@[simp] theorem r_dput {i : Nat} {v ix : WE} {W : WD} {e : En} : wDput i v ix W e = v e fun y e1 => (∃ m, e1[i]? = some (some (.dict m)) ∧ plainM m = true) ∧ ix e1 fun j e2 => ∃ k m, keyOf j = some k ∧ e2[i]? = some (some (.dict m)) ∧ plainM m = true ∧ m.length < lim ∧ W.nx (e2.set i (some (.dict (putDD m k y)))) := rfl
section
variable {K : PySem.W.Frag} {H : Hp} {S : Addr → Prop} {a : Addr}
theorem Rep.toDK {v : V} {m : List (D × D)} (r : Rep K H S v (.dict m)) (hm : plainM m = true) : ∃ a kvs ds, v = .ref a ∧ ¬ S a ∧ H a = some (.dK kvs) ∧ RepAll K H S (kvs.map (·.2)) ds ∧ m = (kvs.map fun p => kD p.1).zip ds := by
  cases r with
  | dK n r al => exact ⟨_, _, _, rfl, n, r, al, rfl⟩
  | dT n r al => cases hm
  | xt n r e z al => cases hm
  | kt n r z al => cases hm
theorem ObjR.toDK {m : List (D × D)} (r : ObjR K H S a (.dict m)) (hm : plainM m = true) : ∃ kvs ds, H a = some (.dK kvs) ∧ RepAll K H S (kvs.map (·.2)) ds ∧ m = (kvs.map fun p => kD p.1).zip ds := by
  cases r with
  | dK r al => exact ⟨_, _, r, al, rfl⟩
  | dT r al => cases hm
theorem RdB.toDK {v : V} {m : List (D × D)} (r : RdB K H S v (.dict m)) (hm : plainM m = true) : ∃ a kvs ds, v = .ref a ∧ H a = some (.dK kvs) ∧ RepAll K H S (kvs.map (·.2)) ds ∧ m = (kvs.map fun p => kD p.1).zip ds := by
  rcases r with r | ⟨a, rfl, r⟩
  · obtain ⟨a, kvs, ds, e, _, h⟩ := r.toDK hm; exact ⟨a, kvs, ds, e, h⟩
  · obtain ⟨kvs, ds, h⟩ := r.toDK hm; exact ⟨a, kvs, ds, rfl, h⟩
theorem Obj1.toDK {m : List (D × D)} (r : Obj1 K H S a (.dict m)) (hm : plainM m = true) : ∃ kvs ds, H a = some (.dK kvs) ∧ RepAll K H S (kvs.map (·.2)) ds ∧ m = (kvs.map fun p => kD p.1).zip ds := r.r.toDK hm
theorem keyOf_v {y : V} {d : D} {k : Key} (r : RdB K H S y d) (h : keyOf d = some k) : y = kV k := by
  cases d <;> simp [keyOf] at h
  · subst h; exact r.toInt
  · subst h; exact r.toStr
end
section
variable {X : Cx} {κ : List SK} {M Me : List Nat} {k ka kb : RK} {a b e : Expr} {w wa wb : WE} {pos : Pos}
theorem se_dget (hu : X.A.units + 1 < cLine) (ha : SE X κ M ka a wa) (hb : SE X κ M kb b wb) (hn : NoSl b) (hs : stable ka M = true := by rfl) (pa : ka.rdable = true := by rfl) (pb : kb.rdable = true := by rfl) : SE X κ M .fz (.Subscript a b pos) (wOp2 dgetD wa wb) :=
  SE.of (pe_dget hu ha hb hn) fun σ H Q ⟨g, env, W, F, hw, post⟩ => ⟨g, env, _, F, hw, fun x H1 g1 e1 d1 F1 s1 r1 w1 => ⟨g1, e1, _, F1, w1, fun y H2 g2 e2 d2 F2 s2 r2 w2 => by
    obtain ⟨z, ez, wz⟩ := w2
    cases d1 with
    | dict m =>
      simp only [dgetD] at ez
      split at ez
      · rename_i hm
        rw [Option.bind_eq_some_iff] at ez
        obtain ⟨k, hk, ez⟩ := ez
        obtain ⟨p, kvs, ds, rfl, hp, al, rfl⟩ := ((r1.step s2 F1 hs).rdb pa).toDK hm
        obtain ⟨v, hv, rv⟩ := (look_rep k al).1 z ez
        refine ⟨p, v, rfl, ?_, post v H2 g2 e2 z F2 (s1.tr s2 F F1) rv wz⟩
        rw [keyOf_v (r2.rdb pb) hk, ← hv]; exact DGet.k hp
      · cases ez
    | _ => cases ez⟩⟩
theorem din_go (hs : stable ka M = true) (pa : ka.rdable = true) (pb : kb.rdable = true) (g0 : Bool → Bool) (f : D → D → Option D) (hf : ∀ y m z, f y (.dict m) = some z → plainM m = true ∧ ∃ k, keyOf y = some k ∧ z = .bool (g0 (lookD m k).isSome)) (hf2 : ∀ y d z, f y d = some z → ∃ m, d = .dict m)
    {σ : St} {H : Hp} {Q : VK} (h : cE X.K κ M .fz (wOp2 f wa wb) σ H Q) : cE X.K κ M ka wa σ H fun y H1 => cE X.K κ M kb wb σ H1 fun x H2 => ∃ a o, x = .ref a ∧ DGet H2 a y o ∧ Q (.bl (g0 o.isSome)) H2 := by
  obtain ⟨g, env, W, F, hw, post⟩ := h
  refine ⟨g, env, _, F, hw, fun y H1 g1 e1 d1 F1 s1 r1 w1 => ⟨g1, e1, _, F1, w1, fun x H2 g2 e2 d2 F2 s2 r2 w2 => ?_⟩⟩
  obtain ⟨z, ez, wz⟩ := w2
  obtain ⟨m, rfl⟩ := hf2 _ _ _ ez
  obtain ⟨hm, k, hk, rfl⟩ := hf _ _ _ ez
  obtain ⟨p, kvs, ds, rfl, hp, al, rfl⟩ := (r2.rdb pb).toDK hm
  refine ⟨p, valV kvs k, rfl, ?_, ?_⟩
  · rw [keyOf_v ((r1.step s2 F1 hs).rdb pa) hk]; exact DGet.k hp
  · rw [(look_rep k al).2]
    exact post _ H2 g2 e2 _ F2 (s1.tr s2 F F1) (.bl _) wz
theorem din_f : (∀ y m z, dinD y (.dict m) = some z → plainM m = true ∧ ∃ k, keyOf y = some k ∧ z = .bool (id (lookD m k).isSome)) ∧ ∀ y d z, dinD y d = some z → ∃ m, d = .dict m := by
  refine ⟨fun y m z h => ?_, fun y d z h => ?_⟩
  · simp only [dinD] at h
    split at h
    · rename_i hm
      rw [Option.map_eq_some_iff] at h
      obtain ⟨k, hk, rfl⟩ := h
      exact ⟨hm, k, hk, rfl⟩
    · cases h
  · cases d <;> first | exact ⟨_, rfl⟩ | (unfold dinD at h; cases h)
/-- a test whose truth is a value's -/
theorem ST.ofB {c : Expr} {t : TE} (h : PT X c (tB t)) (s : ∀ σ H Q, cE X.K κ M .fz w σ H Q → t σ H Q) : ST X κ M c (tVal w) :=
  ST.of h fun σ H Q ⟨g, env, W, F, hw, post⟩ => by
    refine s σ H _ ⟨g, env, _, F, hw, fun v H' g' env' d F' st r ⟨b, eb, wb⟩ => ?_⟩
    subst eb
    exact ⟨b, r.toBl, post b H' g' env' F' st wb⟩
theorem st_din (hu : X.A.units + 1 < cLine) (ha : SE X κ M ka a wa) (hb : SE X κ M kb b wb) (hm : behindInMarks .In b = false) (hs : stable ka M = true := by rfl) (pa : ka.rdable = true := by rfl) (pb : kb.rdable = true := by rfl) : ST X κ M (.Compare a [.In] [b] pos) (tVal (wOp2 dinD wa wb)) :=
  ST.ofB (pt_cmp (pc_din hu ha hb) hm) fun σ H Q h => din_go hs pa pb id dinD din_f.1 din_f.2 h
theorem le65 {n : Nat} (h : n + 65 < cLine) : n + 1 < cLine := by omega
/-- d[k] = v, an own dict -/
theorem ss_dput {i : Nat} {x : Str} {px spos : Pos} {ix : Expr} {kx rk : RK} {wx : WE} (hu : X.A.units + 1 < cLine) (ho : PE X (.Name x px) (tVar i)) (hv : SE X κ Me .fz e w) (hx : SE X κ Me kx ix wx) (hk : kindOf κ i = .o ∨ kindOf κ i = .q) (px' : kx.rdable = true := by rfl) (hi : i ∈ M := by decide) (sub : ∀ i ∈ Me, i ∈ M := by decide)
    (hs : swapsWith e (some (.Subscript (.Name x px) ix spos)) pos.line X.env = pure false := by rfl) : SS X κ M rk (.Assign [.Subscript (.Name x px) ix spos] e pos) (wDput i w wx) :=
  SS.of (ps_dput hu ho hx hv hs) fun D σ H ⟨g, env, W, F, hw, n, b, c, r⟩ => ⟨g, env, _, F, hw, fun v H1 g1 e1 d F1 s1 r1 ⟨⟨m0, e0, hm0⟩, w1⟩ => by
    obtain ⟨v0, sv, sl⟩ := F1.ev i _ e0
    have sl' : ∃ a, v0 = .ref a ∧ g1.al i = some a ∧ Obj1 X.K H1 g1.own a (.dict m0) := by rcases hk with hk | hk <;> rw [hk] at sl <;> exact sl
    obtain ⟨a, rfl, ea, ob⟩ := sl'
    refine ⟨_, sv, g1, e1, _, F1, w1, fun y H2 g2 e2 d2 F2 s2 r2 ⟨kk, m, ed, e3, hm, hlen, w2⟩ => ?_⟩
    have ey : y = kV kk := keyOf_v (r2.rdb px') ed
    subst ey
    obtain ⟨v1, sv1, sl1⟩ := F2.ev i _ e3
    rw [sv] at sv1; cases sv1
    have sl1' : ∃ a', V.ref a = .ref a' ∧ g2.al i = some a' ∧ Obj1 X.K H2 g2.own a' (.dict m) := by rcases hk with hk | hk <;> rw [hk] at sl1 <;> exact sl1
    obtain ⟨a', ee, ea1, ob1⟩ := sl1'
    cases ee
    have rv : Rep X.K H2 g2.own v d := Res.step (k := .fz) (H0 := H) r1 s2 F1 rfl
    obtain ⟨kvs, ds, hp, al, rfl⟩ := ob1.toDK hm
    have hkl : kvs.length < sizeLine := by
      have := al.length
      rw [List.length_zip, List.length_map, ← this, List.length_map, Nat.min_self] at hlen
      exact Nat.lt_of_lt_of_le hlen (by rw [sizeLine_eq]; decide)
    refine ⟨a, _, rfl, DPut.k hp hkl, ?_⟩
    have off : ∀ b x, ¬ g2.own b → H2 b = some x → (upd H2 a (.dK (putK kvs kk v))) b = some x := fun b x n e => by
      rw [upd_ne (fun z => n (by rw [z]; exact .inr ⟨i, ea1⟩))]; exact e
    obtain ⟨ds', al', ez⟩ := put_rep (k := kk) (rv.keep off fun _ q => .inl q) (al.keep off fun _ q => .inl q)
    have ob2 : Obj1 X.K (upd H2 a (.dK (putK kvs kk v))) g2.own a (.dict (putDD ((kvs.map fun p => kD p.1).zip ds) kk d)) := by
      rw [← ez]; exact .dK upd_same al'
    have F3 := F2.put (o := .dK (putK kvs kk v)) hk ea1 sv (fun ys z => by rw [hp] at z; cases z) ob2
    have s12 := ((s1.tr s2 F F1).mono sub).tr (.put (o := .dK (putK kvs kk v)) F2 ea1 hi) F F2
    exact n g2 _ σ _ F3 (s12.toS F F3) w2⟩
end
end G7

set_option maxRecDepth 100000
namespace G7
open PySem PySem.Spec PyProof.Rows L2
def dP (p : Int × Int) : D := .tuple [.int p.1, .int p.2]
def pairsD : List D → Option (List (Int × Int))
  | [] => some []
  | .tuple [.int i, .int j] :: r => (pairsD r).map ((i, j) :: ·)
  | _ => none
def leP (p q : Int × Int) : Prop := p.1 < q.1 ∨ (p.1 = q.1 ∧ p.2 ≤ q.2)
instance (p q : Int × Int) : Decidable (leP p q) := by unfold leP; exact inferInstance
def insP (x : Int × Int) : List (Int × Int) → List (Int × Int)
  | [] => [x]
  | y :: l => if leP x y then x :: y :: l else y :: insP x l
def psort : List (Int × Int) → List (Int × Int)
  | [] => []
  | x :: l => insP x (psort l)
theorem insP_perm (x : Int × Int) : ∀ l : List (Int × Int), (insP x l).Perm (x :: l)
  | [] => List.Perm.refl _
  | y :: l => by
    unfold insP
    split
    · exact List.Perm.refl _
    · exact ((insP_perm x l).cons y).trans (List.Perm.swap x y l)
theorem psort_perm : ∀ l : List (Int × Int), (psort l).Perm l
  | [] => List.Perm.refl _
  | x :: l => (insP_perm x _).trans ((psort_perm l).cons x)
theorem leP_total {p q : Int × Int} (h : ¬ leP p q) : leP q p := by unfold leP at *; omega
theorem leP_trans {p q r : Int × Int} (h : leP p q) (h2 : leP q r) : leP p r := by unfold leP at *; omega
theorem leP_anti {p q : Int × Int} (h : leP p q) (h2 : leP q p) : p = q := by unfold leP at *; apply Prod.ext <;> omega
theorem insP_sorted (x : Int × Int) : ∀ l : List (Int × Int), l.Pairwise leP → (insP x l).Pairwise leP
  | [], _ => List.pairwise_singleton _ _
  | y :: l, h => by
    have h' := List.pairwise_cons.mp h
    unfold insP
    split
    · rename_i hxy
      refine List.pairwise_cons.mpr ⟨fun z hz => ?_, h⟩
      rcases List.mem_cons.mp hz with e | hz
      · subst e; exact hxy
      · exact leP_trans hxy (h'.1 z hz)
    · rename_i hxy
      refine List.pairwise_cons.mpr ⟨fun z hz => ?_, insP_sorted x l h'.2⟩
      rcases List.mem_cons.mp ((insP_perm x l).mem_iff.mp hz) with e | hz
      · subst e; exact leP_total hxy
      · exact h'.1 z hz
theorem psort_sorted : ∀ l : List (Int × Int), (psort l).Pairwise leP
  | [] => .nil
  | x :: l => insP_sorted x _ (psort_sorted l)
theorem psort_one : ∀ {l m : List (Int × Int)}, l.Perm m → l.Pairwise leP → m.Pairwise leP → l = m
  | [], m, p, _, _ => (p.symm.eq_nil).symm
  | x :: l, [], p, _, _ => absurd p.eq_nil (by simp)
  | x :: l, y :: m, p, hl, hm => by
    have hl' := List.pairwise_cons.mp hl
    have hm' := List.pairwise_cons.mp hm
    have e : x = y := by
      have h1 : x ∈ y :: m := p.mem_iff.mp (by simp)
      have h2 : y ∈ x :: l := p.mem_iff.mpr (by simp)
      rcases List.mem_cons.mp h1 with e | h1
      · exact e
      · rcases List.mem_cons.mp h2 with e | h2
        · exact e.symm
        · exact leP_anti (hl'.1 y h2) (hm'.1 x h1)
    subst e
    rw [psort_one (p.cons_inv) hl'.2 hm'.2]
def sortedAD : List D → Option D
  | [.list xs] => match intsD xs with
    | some ns => some (.list ((isort ns).map .int))
    | none => (pairsD xs).map fun ps => .list ((psort ps).map dP)
  | _ => none
theorem pairsD_map : ∀ {xs : List D} {ps : List (Int × Int)}, pairsD xs = some ps → xs = ps.map dP
  | [], _, h => by simp [pairsD] at h; subst h; rfl
  | x :: xs, ps, h => by
    unfold pairsD at h
    split at h
    · rename_i e; cases e
    · rename_i i j r e
      injection e with e1 e2
      subst e1 e2
      rw [Option.map_eq_some_iff] at h
      obtain ⟨qs, hq, rfl⟩ := h
      rw [pairsD_map hq]; rfl
    · cases h
section
variable {K : PySem.W.Frag} {H : Hp} {S : Addr → Prop}
theorem repAll_of {k : V → Int × Int} : ∀ {ys : List V}, (∀ x ∈ ys, Rep K H S x (dP (k x))) → RepAll K H S ys ((ys.map k).map dP)
  | [], _ => .nil
  | y :: ys, h => .cons (h y (by simp)) (repAll_of fun x hx => h x (by simp [hx]))
end
section
variable {X : Cx}
def maxAD : List D → Option D
  | [.list xs] => (intsD xs).bind fun ns => (maxI ns).map .int
  | [.tuple xs] => (intsD xs).bind fun ns => (maxI ns).map .int
  | [.dict [(.none, .tuple xs)]] => (intsD xs).bind fun ns => (maxI ns).map .int
  | _ => none
end
end G7

set_option maxRecDepth 100000
namespace G7
open PySem PySem.Spec PyProof.Rows L2
section
variable {prog : Program} {w : World} {A : Around} {E : Value → Shared → Prop} {s : Shared} {d r : Addr} {o : Obj} {es : Array DictEntry} {ep : Nat}
theorem walks_raw (hh : A.handled = none) (I d : Addr) (hne : d ≠ I) (hdat : o.data = .dict es ep) :
    Walks prog w A I [I, d] [I] es.size (fun i v => ∃ en, es[i]? = some en ∧ v = en.key) (fun i h => h.IsKeyIter I d i es.size ep ∧ h.get? d = some o) where
  sub := fun b hb => by simp at hb; simp [hb]
  frame := fun _ _ _ st hk => ⟨st.1.at fun o e => hk I (by simp) o e, hk d (by simp) _ st.2⟩
  item := fun i s Q E hi st hQ => by
    obtain ⟨en, hen⟩ : ∃ en, es[i]? = some en := ⟨es[i], by simp [hi]⟩
    refine next_key_item st.1 st.2 hdat rfl hen fun h' hit' sb => ?_
    exact hQ en.key h' s.toks ⟨en, hen, rfl⟩ ⟨hit', (sb.2 d hne).trans st.2⟩ fun b o hb e => (sb.2 b (fun h => hb (by simp [h]))).trans e
  done := fun s Q E st hQ => next_key_end hh st.1 st.2 hdat rfl (Nat.le_refl _) fun h' he' => hQ h' s.toks fun b o hb e => he' b o (fun h => hb (by simp [h])) e
  self := fun _ _ _ _ st hQ => wpAny_pyIter_keyiter st.1 hQ
theorem kdr_dict (lo : (d == sysModules) = false) (hx : o.ExactDict) (hdat : o.data = .dict es ep) :
    PySem.W.KdlSrc prog w "dict" d d es.size (fun i v => ∃ en, es[i]? = some en ∧ v = en.key) (fun h => h.get? d = some o) where
  type := fun _ hm => ⟨o, hm, hx.1⟩
  there := fun _ hm => ⟨Heap.lt_size hm, Heap.lt_size hm⟩
  keep := fun _ _ hm hk => hk d (.inl rfl) o hm
  notList := by decide
  notTuple := by decide
  hint := fun _ _ _ _ hm hq => PySem.W.kdl_hint_dict ⟨o, hm, hx.1⟩ hq
  iter := fun _ _ hh hm => ⟨_, _, (fun _ _ hq => iter_keys lo hm hx hdat hq), walks_raw hh _ d (Nat.ne_of_lt (Heap.lt_size hm)) hdat, ⟨⟨_, Heap.get?_push_size _ rfl, rfl, rfl⟩, Heap.get?_push_of_some _ hm⟩⟩
theorem iter_keysV {v : Addr} {Q : Value → Shared → Prop} (hv : PySem.W.KdlKeysView s.heap v d) (ho : s.heap.get? d = some o) (hdat : o.data = .dict es ep)
    (hQ : Q (.ref s.heap.objs.size) { s with heap := s.heap.push { cls := .type "dict_keyiterator", data := .fields #[.ref d, .int 0 0, .int es.size 0, .int ep 0] } }) :
    wpAny (model prog w) A (pyIter (.ref v)) Q E s := by
  obtain ⟨ov, hov, hcv, hdv⟩ := id hv
  refine wpAny_pyIter_slot hv.typeIs PySem.W.kdl_slot_keys_iter (wpAny_call_entry PySem.W.kdl_slot_keys_iter hv.typeIs PySem.W.kdl_entry_keys_iter ?_ (PySem.W.kdl_args_keys_iter _))
  unfold Builtin.«dict_keys.__iter__»
  refine wpAny_bind (wpAny_pure ?_)
  refine wpAny_bind ?_
  unfold Builtin.Dict_items.dictOf
  refine wpAny_bind (wpAny_field hov hdv (x := .ref d) rfl (wpAny_pure ?_))
  refine wpAny_bind ?_
  unfold Builtin.Dict_items.newIterator
  refine wpAny_bind (wpAny_dictEntries ho hdat ?_)
  refine wpAny_bind (wpAny_dictEpoch ho hdat ?_)
  have hown : Builtin.Dict_items.ownsTuple "dict_keyiterator" = false := by decide
  simp only [hown, Bool.false_eq_true, if_false]
  refine wpAny_newObj_type (wpAny_pure ⟨_, rfl, "dict_keyiterator", _, ⟨_, Heap.get?_push_size _ rfl, rfl⟩, PySem.F.slot_dict_keyiterator_next.lookup, ?_⟩)
  simpa [rawInt] using hQ
theorem kdr_keys (hx : o.ExactDict) (hdat : o.data = .dict es ep) :
    PySem.W.KdlSrc prog w "dict_keys" r d es.size (fun i v => ∃ en, es[i]? = some en ∧ v = en.key) (fun h => PySem.W.KdlKeysView h r d ∧ h.get? d = some o) where
  type := fun _ hm => hm.1.typeIs
  there := fun _ hm => ⟨let ⟨_, ho, _⟩ := hm.1; Heap.lt_size ho, Heap.lt_size hm.2⟩
  keep := fun _ _ hm hk => ⟨let ⟨o, ho, x⟩ := hm.1; ⟨o, hk r (.inl rfl) o ho, x⟩, hk d (.inr rfl) o hm.2⟩
  notList := by decide
  notTuple := by decide
  hint := fun _ _ _ _ hm hq => PySem.W.kdl_hint_keys hm.1.typeIs hq
  iter := fun _ _ hh hm => ⟨_, _, (fun _ _ hq => iter_keysV hm.1 hm.2 hdat hq), walks_raw hh _ d (Nat.ne_of_lt (Heap.lt_size hm.2)) hdat, ⟨⟨_, Heap.get?_push_size _ rfl, rfl, rfl⟩, Heap.get?_push_of_some _ hm.2⟩⟩
theorem meets_keysR (hd : (d == sysModules) = false) :
    MeetsIn prog w (Builtin.«dict.keys» ⟨[.ref d], []⟩) (fun _ R s => DT.Raw s.heap d es ep ∧
      R (.ok (.ret (.ref s.heap.objs.size))) { s with heap := s.heap.push { cls := .type "dict_keys", data := .fields #[.ref d] } }) :=
  .of_wp fun A R s ⟨hm, h⟩ => by
    unfold Builtin.«dict.keys»
    refine wpAny_bind ?_
    unfold Builtin.Dict.noArgs
    refine wpAny_bind (wpAny_notOrdered_dict hm.typeIs ?_)
    show wpAny _ _ (pure d) _ _ s
    refine wpAny_pure ?_
    show wpAny _ _ (Builtin.Dict.showsAll d >>= _) _ _ s
    unfold Builtin.Dict.showsAll
    rw [if_neg (by rw [hd]; exact Bool.false_ne_true)]
    refine wpAny_bind (wpAny_pure ?_)
    exact wpAny_bind (wpAny_newObj_type (wpAny_pure ⟨_, rfl, h⟩))
end
/-- the view d.keys() at p -/
def keysO (p d : Addr) : HO := .ext fun h => PySem.W.KdlKeysView h p d
theorem keysO_ok {P : Program} {w : World} {H : Hp} {h : Heap} {p d : Addr} (e : h.get? p = some { cls := .type "dict_keys", data := .fields #[.ref d] }) : ObjOk P w H h p (keysO p d) :=
  ⟨⟨_, e, rfl, rfl⟩, ⟨_, e⟩, fun h1 h2 x k => let ⟨o, ho, r⟩ := x; ⟨o, k o ho, r⟩⟩
section
variable {X : Cx}
def rKeysT : V → List V → Hp → VK → Prop := fun x xs H Q => ∃ (a : Addr) (kvs : List (List L2.Key × V)), x = .ref a ∧ xs = [] ∧ H a = some (.dT kvs) ∧ ∀ p, H p = none → Q (.ref p) (upd H p (keysO p a))
theorem mt_keysT : MtR X "dict.keys" rKeysT := by
  intro pins s σ H x xs v us Q I rx rxs h
  obtain ⟨a, kvs, rfl, rfl, ha, q⟩ := h
  cases rx
  cases rxs
  obtain ⟨z, hd, xs', rel, o, es, ep, ho, hx, hdat, _⟩ := dt_of I.hok ha
  refine call_meetsIn PySem.F.slot_dict_keys (⟨o, ho, hx.1⟩ : s.TypeIs (.ref a) "dict") PySem.F.entry_dict_keys (PySem.F.args_dict_keys_1 _) (meets_keysR (es := es) (ep := ep) hd) ⟨⟨o, ho, hx, hdat⟩, ?_⟩
  have hf : H s.heap.objs.size = none := I.hok.fresh (Nat.le_refl _)
  exact ⟨.ref s.heap.objs.size, upd H s.heap.objs.size (keysO s.heap.objs.size a), I.laid (t' := s.toks) (fun b u e => Heap.get?_push_of_some _ e) (Nat.le_refl _) (keysO_ok (Heap.get?_push_size _ rfl)), rfl, q _ hf⟩
/-- a dict with tuple keys, or the view of its keys -/
def SrcT (H : Hp) (p : Addr) (kvs : List (List L2.Key × V)) : Prop := H p = some (.dT kvs) ∨ ∃ a, H p = some (keysO p a) ∧ H a = some (.dT kvs)
theorem kt_addrs {H : Hp} : ∀ {kvs : List (List L2.Key × V)} {xs : List (List L2.Key × Addr × Value)}, KT H kvs xs → Paired (fun kv q => H q = some (.tup (kv.1.map kV))) kvs (xs.map (·.2.1))
  | [], [], _ => .nil
  | _ :: _, _ :: _, .cons h t => .cons h.2.1 (kt_addrs t)
/-- its keys' addresses -/
theorem SrcT.at' {P : Program} {w : World} {H : Hp} {h : Heap} {p : Addr} {kvs : List (List L2.Key × V)} (g : SrcT H p kvs) (ok : HOk P w H h) : ∃ (T : String) (d : Addr) (n : Nat) (Pv : Nat → Value → Prop) (OK : Heap → Prop) (qs : List Addr),
    PySem.W.KdlSrc P w T p d n Pv OK ∧ OK h ∧ n = qs.length ∧ n ≤ sizeLine ∧ (∀ i v, Pv i v → ∃ q, qs[i]? = some q ∧ v = .ref q) ∧ Paired (fun kv q => H q = some (.tup (kv.1.map kV))) kvs qs := by
  have core : ∀ {d : Addr}, H d = some (.dT kvs) → ∃ (o : Obj) (es : Array DictEntry) (ep : Nat) (qs : List Addr), kvs.length ≤ sizeLine ∧ (d == sysModules) = false ∧ h.get? d = some o ∧ o.ExactDict ∧ o.data = .dict es ep ∧ es.size = qs.length ∧ es.size ≤ sizeLine ∧
      (∀ (i : Nat) en, es[i]? = some en → ∃ q, qs[i]? = some q ∧ en.key = .ref q) ∧ Paired (fun kv q => H q = some (.tup (kv.1.map kV))) kvs qs := by
    intro d hd
    obtain ⟨z, hs, xs, rel, o, es, ep, ho, hx, hdat, he, _⟩ := dt_of ok hd
    refine ⟨o, es, ep, xs.map (·.2.1), z, hs, ho, hx, hdat, ?_, ?_, fun i en hen => ?_, ?_⟩
    · rw [size_of_entries he, List.length_map]
    · have l1 : kvs.length = xs.length := Paired.length rel
      rw [size_of_entries he, ← l1]; exact z
    · rw [entry_at he i] at hen
      obtain ⟨x, hx1, rfl⟩ := Option.map_eq_some_iff.mp hen
      exact ⟨x.2.1, by rw [List.getElem?_map, hx1]; rfl, rfl⟩
    · exact kt_addrs rel
  rcases g with g | ⟨a, g1, g2⟩
  · obtain ⟨o, es, ep, qs, z, hs, ho, hx, hdat, e1, e2, e3, e4⟩ := core g
    exact ⟨_, _, _, _, _, qs, kdr_dict hs hx hdat, ho, e1, e2, fun i v ⟨en, h1, h2⟩ => by obtain ⟨q, h3, h4⟩ := e3 i en h1; exact ⟨q, h3, h2.trans h4⟩, e4⟩
  · obtain ⟨o, es, ep, qs, z, hs, ho, hx, hdat, e1, e2, e3, e4⟩ := core g2
    have view : PySem.W.KdlKeysView h p a := (show ObjOk P w H h p (keysO p a) from ok p _ g1).1
    exact ⟨_, _, _, _, _, qs, kdr_keys hx hdat, ⟨view, ho⟩, e1, e2, fun i v ⟨en, h1, h2⟩ => by obtain ⟨q, h3, h4⟩ := e3 i en h1; exact ⟨q, h3, h2.trans h4⟩, e4⟩
theorem acc_refs {Pv : Nat → Value → Prop} {acc : Array Value} {n : Nat} {qs : List Addr} (hn : n = qs.length) (h : ItemsOf Pv acc n) (hp : ∀ i v, Pv i v → ∃ q, qs[i]? = some q ∧ v = .ref q) : acc.toList = qs.map Value.ref := by
  refine List.ext_getElem (by rw [Array.length_toList, h.1, List.length_map, hn]) fun i h1 h2 => ?_
  have := h.2 i acc.toList[i] (by rw [← Array.getElem?_toList, List.getElem?_eq_getElem h1])
  obtain ⟨q, e1, e2⟩ := hp i _ this
  rw [e2, List.getElem_map]
  rw [List.length_map] at h2
  rw [List.getElem?_eq_getElem h2] at e1
  rw [Option.some.inj e1]
/-- sorted(d), sorted(d.keys()): keys that are pairs of numbers -/
def rSortedT2 : List V → Hp → VK → Prop := fun vs H Q => ∃ (p : Addr) (kvs : List (List L2.Key × V)) (ps : List (Int × Int)), vs = [.ref p] ∧ SrcT H p kvs ∧ kvs.map (·.1) = ps.map (fun p => [.inl p.1, .inl p.2]) ∧
  ∀ (xs ys : List V) (l : Addr) (k : V → Int × Int), (∀ x ∈ xs, ∃ q, x = .ref q ∧ H q = some (.tup [.int (k x).1, .int (k x).2])) → xs.map k = ps → SrtO.Srtd (ltP k) ys → SrtO.Stb (ltP k) ys xs → ys.length ≤ sizeLine → H l = none → Q (.ref l) (upd H l (.lst ys))
open Classical in
noncomputable def keyQ (H : Hp) (v : V) : Int × Int := if h : ∃ (p : Int × Int) (t : Addr), v = V.ref t ∧ H t = some (.tup [.int p.1, .int p.2]) then Classical.choose h else (0, 0)
theorem keyQ_eq {H : Hp} {t : Addr} {p : Int × Int} (e : H t = some (.tup [.int p.1, .int p.2])) : keyQ H (.ref t) = p := by
  have h : ∃ (p : Int × Int) (t' : Addr), V.ref t = V.ref t' ∧ H t' = some (.tup [.int p.1, .int p.2]) := ⟨p, t, rfl, e⟩
  unfold keyQ
  rw [dif_pos h]
  obtain ⟨t2, e2, h2⟩ := Classical.choose_spec h
  cases e2
  rw [e] at h2
  have := Option.some.inj h2
  injection this with this
  injection this with h1 h2
  injection h2 with h2 _
  injection h1 with h1
  injection h2 with h2
  exact Prod.ext h1.symm h2.symm
theorem cr_sortedT2 (hc : X.calm = true) : CallR X (.builtin "sorted") rSortedT2 := by
  intro pins s σ H vs us Q I r h
  obtain ⟨p, kvs, ps, rfl, g, hks, q⟩ := h
  obtain rfl := Vals.ref1 r
  obtain ⟨T, d, n, Pv, OK, qs, K, hok, hn, hz, hP, hpr⟩ := g.at' I.hok
  have hq : ∀ {l : List (List L2.Key × V)} {qs : List Addr} {ps : List (Int × Int)}, Paired (fun kv q => H q = some (.tup (kv.1.map kV))) l qs → l.map (·.1) = ps.map (fun p => [.inl p.1, .inl p.2]) →
      (∀ x ∈ qs.map V.ref, ∃ q, x = .ref q ∧ H q = some (.tup [.int (keyQ H x).1, .int (keyQ H x).2])) ∧ (qs.map V.ref).map (keyQ H) = ps := by
    intro l qs ps hpr
    induction hpr generalizing ps with
    | nil => intro e; cases ps with
      | nil => exact ⟨by simp, rfl⟩
      | cons => simp at e
    | @cons kv q l qs h1 _ ih =>
      intro e
      cases ps with
      | nil => simp at e
      | cons p ps =>
        simp only [List.map_cons, List.cons.injEq] at e
        obtain ⟨i1, i2⟩ := ih e.2
        rw [e.1] at h1
        have h1 : H q = some (.tup [.int p.1, .int p.2]) := h1
        refine ⟨fun x hx => ?_, ?_⟩
        · rw [List.map_cons, List.mem_cons] at hx
          rcases hx with rfl | hx
          · exact ⟨q, rfl, by rw [keyQ_eq h1]; exact h1⟩
          · exact i1 x hx
        · rw [List.map_cons, List.map_cons, keyQ_eq h1, i2]
  obtain ⟨hx, hps⟩ := hq hpr hks
  have q := fun ys l => q (qs.map V.ref) ys l (keyQ H) hx hps
  generalize keyQ H = k at hx q
  refine Calls.call_function_entry PyProof.Rows.kind_sorted PyProof.Rows.plain_sorted PyProof.Rows.entry_sorted (PyProof.Rows.args_sorted1 _) ?_
  unfold Builtin.«sorted»
  refine wpAny_bind (m := checkCount "sorted" 1 1 _) (wpAny_pure ?_)
  refine wpAny_bind (PySem.W.kdu_collect (A := X.A.in1) K (I.ok.hd hc) hok hz fun h' tk acc hk hacc => ?_)
  have e := acc_refs hn hacc hP
  rw [e]
  have I1 : Inv X pins σ H { s with heap := h', toks := tk } := I.kept hk
  have hlen : (qs.map Value.ref).length ≤ sizeLine := by rw [List.length_map, ← hn]; exact hz
  refine wpAny_bind (wpAny_newList ?_ hlen)
  have hoL : (h'.push (seqObj "list" (qs.map Value.ref).toArray 0)).get? h'.objs.size = some (seqObj "list" (qs.map Value.ref).toArray 0) := Heap.get?_push_size _ rfl
  show wpAny _ _ _ _ _ { s with heap := h'.push (seqObj "list" (qs.map Value.ref).toArray 0), toks := tk }
  have hpair : ∀ v ∈ qs.map Value.ref, Srt.IsPair (h'.push (seqObj "list" (qs.map Value.ref).toArray 0)) v (k (backV v)).1 (k (backV v)).2 := by
    intro v hv
    obtain ⟨b, hb, rfl⟩ := List.mem_map.mp hv
    obtain ⟨b', e1, h1⟩ := hx (.ref b) (List.mem_map.mpr ⟨b, hb, rfl⟩)
    cases e1
    obtain ⟨_, its2, r2, ot, hot, hct, nt, hdt⟩ := (show ObjOk X.prog X.w H h' b (.tup [.int (k (.ref b)).1, .int (k (.ref b)).2]) from I1.hok _ _ h1)
    obtain ⟨u1, u2, rfl, ri, rj⟩ := vals2 r2
    obtain ⟨t1, rfl⟩ := ri
    obtain ⟨t2, rfl⟩ := rj
    exact ⟨b, ot, t1, t2, nt, rfl, Heap.get?_push_of_some _ hot, hct, hdt⟩
  refine wpAny_bind (wpAny_holding (wpAny_call_entry slot_list_sort ⟨_, hoL, rfl⟩ entry_list_sort
    (SrtO.list_sort_ord (s := { s with heap := h'.push (seqObj "list" (qs.map Value.ref).toArray 0), toks := tk }) (SrtO.swo_lex fun u => k (backV u)) hoL hlen (fun h2 => ?_) fun out hs hb => ⟨_, rfl, ?_⟩) (args_list_sort _)))
  · refine SrtO.pairs_sortableO (by omega) hpair fun o e => ?_
    have e' : some o = some (seqObj "list" (qs.map Value.ref).toArray 0) := e.symm.trans hoL
    cases e'
    intro c
    exact absurd (Value.type.inj c) (by decide)
  · have hr : ∀ u ∈ out, ∃ a, u = Value.ref a := fun u hu => by
      obtain ⟨b, _, rfl⟩ := List.mem_map.mp (hb.perm.mem_iff.mp hu); exact ⟨b, rfl⟩
    have hb' : SrtO.Stb (ltP k) (out.map backV) (qs.map V.ref) := by
      have := SrtO.Stb.map (ltP_swo k) backV hb
      rwa [List.map_map] at this
    obtain ⟨e', he'⟩ := PyProof.Rows.sortedHeap_at (vs := qs.map Value.ref) (out := out.toArray) hoL
    have hlo : (out.map backV).length ≤ sizeLine := by rw [hb'.len, List.length_map, ← hn]; exact hz
    refine wpAny_pure ⟨_, rfl, .ref h'.objs.size, upd H h'.objs.size (.lst (out.map backV)), I1.laid (t' := tk) (fun b u e => ?_) (Nat.le_refl _)
      (show ObjOk X.prog X.w _ _ _ (.lst (out.map backV)) from ⟨hlo, out, e', vals_back hr, he'⟩), rfl, q _ _ (SrtO.srtd_map hs) hb' hlo (I1.hok.fresh (Nat.le_refl _))⟩
    have hb : b < h'.objs.size := Heap.lt_size e
    rw [PyProof.Rows.sortedHeap_old (Nat.ne_of_lt hb) (by rw [size_push']; exact Nat.lt_succ_of_lt hb)]
    exact Heap.get?_push_of_some _ e
end
end G7

set_option maxRecDepth 100000
namespace G7
open PySem PySem.Spec PyProof.Rows L2
end G7

set_option maxRecDepth 100000
namespace G7
open PySem PySem.Spec PyProof.Rows L2
def keysOf : List D → Option (List Key)
  | [] => some []
  | d :: r => (keyOf d).bind fun k => (keysOf r).map (k :: ·)
def keyT : D → Option (List Key)
  | .tuple ds => keysOf ds
  | _ => none
theorem keyOf_kD (k : Key) : keyOf (kD k) = some k := by cases k <;> rfl
theorem keysOf_kD : ∀ ks : List Key, keysOf (ks.map kD) = some ks
  | [] => rfl
  | k :: ks => by simp [keysOf, keyOf_kD, keysOf_kD ks]
/-- a key that is looked up or laid -/
def keyTR0 : D → Option (List Key)
  | .tuple [] => if tupX = true then some [] else none
  | d => keyT d
def keyTR : D → Option (List Key)
  | .dict [(.bool true, .tuple ds)] => keysOf ds
  | d => (keyTR0 d).bind fun k => if keyLen k.length = true then some k else none
theorem keyTR_t (ds : List D) : keyTR (.tuple ds) = (keyTR0 (.tuple ds)).bind fun k => if keyLen k.length = true then some k else none := rfl
theorem keyTR_0 {ds : List D} {k : List Key} (h : keyTR (.tuple ds) = some k) : keyTR0 (.tuple ds) = some k ∧ keyLen k.length = true := by
  rw [keyTR_t] at h
  obtain ⟨k', h1, h2⟩ := Option.bind_eq_some_iff.mp h
  split at h2
  · next c => cases h2; exact ⟨h1, c⟩
  · cases h2
theorem keysOf_len : ∀ {ds : List D} {k : List Key}, keysOf ds = some k → k.length = ds.length
  | [], k, h => by simp [keysOf] at h; subst h; rfl
  | d :: ds, k, h => by
    simp only [keysOf, Option.bind_eq_some_iff, Option.map_eq_some_iff] at h
    obtain ⟨a, _, r, hr, rfl⟩ := h
    simp [keysOf_len hr]
theorem keyTR_T {ds : List D} {k : List Key} (h : keyTR (.tuple ds) = some k) : keysOf ds = some k ∧ frzOk0 ds = false := by
  have h := (keyTR_0 h).1
  cases ds with
  | nil =>
    simp only [keyTR0] at h
    split at h
    · next c => cases h; exact ⟨rfl, by simp [frzOk0, c]⟩
    · cases h
  | cons d r =>
    simp only [keyTR0, keyT] at h
    refine ⟨h, ?_⟩
    cases d <;> first | rfl | (simp [keysOf, keyOf] at h)
theorem keyT_tD (k : List Key) : keyT (tD k) = some k := keysOf_kD k
def keyTB (k : List Key) (d : D) : Bool := decide (keyT d = some k)
theorem keyTB_tD (k k' : List Key) : keyTB k (tD k') = decide (k' = k) := by simp [keyTB, keyT_tD]
/-- a dict with tuple keys -/
abbrev dTD (m : List (D × D)) : D := .dict ((.none, .none) :: m)
def lookTD (m : List (D × D)) (k : List Key) : Option D := (m.find? fun p => keyTB k p.1).map (·.2)
def putTD (m : List (D × D)) (k : List Key) (v : D) : List (D × D) := if (m.any fun p => keyTB k p.1) = true then m.map (fun p => if keyTB k p.1 = true then (p.1, v) else p) else m ++ [(tD k, v)]
section
variable {K : PySem.W.Frag} {H : Hp} {S : Addr → Prop}
theorem any_keysT (k : List Key) : ∀ {kvs : List (List Key × V)} {ds : List D}, (kvs.length = ds.length) → (((kvs.map fun p => tD p.1).zip ds).any fun p => keyTB k p.1) = kvs.any fun kv => decide (kv.1 = k)
  | [], _, _ => by simp
  | p :: kvs, [], h => by simp at h
  | p :: kvs, d :: ds, h => by
    have := any_keysT k (kvs := kvs) (ds := ds) (by simpa using h)
    simp only [List.map_cons, List.zip_cons_cons, List.any_cons, keyTB_tD, this]
theorem put_repT {k : List Key} {v : V} {d : D} (rv : Rep K H S v d) {kvs : List (List Key × V)} {ds : List D} (al : RepAll K H S (kvs.map (·.2)) ds) :
    ∃ ds', RepAll K H S ((putK kvs k v).map (·.2)) ds' ∧ ((putK kvs k v).map fun p => tD p.1).zip ds' = putTD ((kvs.map fun p => tD p.1).zip ds) k d := by
  have hl : kvs.length = ds.length := by simpa using al.length
  unfold putK putTD
  rw [any_keysT k hl]
  by_cases h : (kvs.any fun kv => decide (kv.1 = k)) = true
  · rw [if_pos h, if_pos h]
    have key : ∀ {kvs : List (List Key × V)} {ds : List D}, RepAll K H S (kvs.map (·.2)) ds → ∃ ds', RepAll K H S ((kvs.map fun kv => if kv.1 = k then (kv.1, v) else kv).map (·.2)) ds' ∧ ((kvs.map fun kv => if kv.1 = k then (kv.1, v) else kv).map fun p => tD p.1).zip ds' = ((kvs.map fun p => tD p.1).zip ds).map fun p => if keyTB k p.1 = true then (p.1, d) else p := by
      intro kvs
      induction kvs with
      | nil => intro ds al; cases al; exact ⟨[], .nil, rfl⟩
      | cons p kvs ih =>
        intro ds al
        cases al with
        | @cons _ _ d0 _ r t =>
          obtain ⟨ds', h1, h2⟩ := ih t
          by_cases e : p.1 = k
          · refine ⟨d :: ds', ?_, ?_⟩
            · simp only [List.map_cons, if_pos e]; exact .cons rv h1
            · simp only [List.map_cons, List.zip_cons_cons, if_pos e, keyTB_tD, h2]; simp [e]
          · refine ⟨d0 :: ds', ?_, ?_⟩
            · simp only [List.map_cons, if_neg e]; exact .cons r h1
            · simp only [List.map_cons, List.zip_cons_cons, if_neg e, keyTB_tD, h2]; simp [e]
    exact key al
  · rw [if_neg h, if_neg h]
    refine ⟨ds ++ [d], ?_, ?_⟩
    · rw [List.map_append]; exact al.append (.cons rv .nil)
    · rw [List.map_append, List.zip_append (by simpa using hl)]; rfl
end
theorem pairsD_dP0 : ∀ ps : List (Int × Int), pairsD (ps.map dP) = some ps
  | [] => rfl
  | p :: ps => by simp [pairsD, dP, pairsD_dP0 ps]
def dinTD : D → D → Option D
  | y, .dict ((.none, .none) :: m) => (keyTR y).map fun k => .bool (lookTD m k).isSome
  | _, _ => none
def dninTD : D → D → Option D
  | y, .dict ((.none, .none) :: m) => (keyTR y).map fun k => .bool (!(lookTD m k).isSome)
  | _, _ => none
def wDputT (i : Nat) (v ix : WE) : WS := fun W e => v e fun y e1 => (∃ m, e1[i]? = some (some (dTD m))) ∧ ix e1 fun j e2 => ∃ k m, keyTR j = some k ∧ e2[i]? = some (some (dTD m)) ∧ m.length < lim ∧ W.nx (e2.set i (some (dTD (putTD m k y))))
section
variable {K : PySem.W.Frag} {H : Hp} {S : Addr → Prop} {a : Addr}
theorem dT_zip {kvs : List (Key × V)} {ds : List D} {m : List (D × D)} (h : (kvs.map fun p => kD p.1).zip ds = (.none, .none) :: m) : False := by
  cases kvs with
  | nil => simp at h
  | cons p kvs => cases ds with
    | nil => simp at h
    | cons d ds =>
      simp at h
      have := h.1.1
      cases hp : p.1 <;> rw [hp] at this <;> cases this
theorem Rep.toDT {v : V} {m : List (D × D)} (r : Rep K H S v (dTD m)) : ∃ a kvs ds, v = .ref a ∧ ¬ S a ∧ H a = some (.dT kvs) ∧ RepAll K H S (kvs.map (·.2)) ds ∧ m = (kvs.map fun p => tD p.1).zip ds := by
  unfold dTD at r
  generalize hd : PyData.dict ((.none, .none) :: m) = d at r
  cases r with
  | dK n r al => exact (dT_zip (PyData.dict.inj hd).symm).elim
  | dT n r al => exact ⟨_, _, _, rfl, n, r, al, (List.cons.inj (PyData.dict.inj hd)).2⟩
  | xt n r e z al => exact absurd (Prod.mk.inj (List.cons.inj (PyData.dict.inj hd)).1).2 (by simp)
  | _ => cases hd
theorem ObjR.toDT {m : List (D × D)} (r : ObjR K H S a (dTD m)) : ∃ kvs ds, H a = some (.dT kvs) ∧ RepAll K H S (kvs.map (·.2)) ds ∧ m = (kvs.map fun p => tD p.1).zip ds := by
  unfold dTD at r
  generalize hd : PyData.dict ((.none, .none) :: m) = d at r
  cases r with
  | dK r al => exact (dT_zip (PyData.dict.inj hd).symm).elim
  | dT r al => exact ⟨_, _, r, al, (List.cons.inj (PyData.dict.inj hd)).2⟩
  | lst => cases hd
theorem RdB.toDT {v : V} {m : List (D × D)} (r : RdB K H S v (dTD m)) : ∃ a kvs ds, v = .ref a ∧ H a = some (.dT kvs) ∧ RepAll K H S (kvs.map (·.2)) ds ∧ m = (kvs.map fun p => tD p.1).zip ds := by
  rcases r with r | ⟨a, rfl, r⟩
  · obtain ⟨a, kvs, ds, e, _, h⟩ := r.toDT; exact ⟨a, kvs, ds, e, h⟩
  · obtain ⟨kvs, ds, h⟩ := r.toDT; exact ⟨a, kvs, ds, rfl, h⟩
theorem keysOf_v : ∀ {ds : List D} {vs : List V} {ks : List Key}, RepAll K H S vs ds → keysOf ds = some ks → vs = ks.map kV
  | [], _, _, .nil, h => by simp [keysOf] at h; subst h; rfl
  | d :: ds, v :: vs, ks, .cons r t, h => by
    simp only [keysOf, Option.bind_eq_some_iff, Option.map_eq_some_iff] at h
    obtain ⟨k, hk, ks', hks, rfl⟩ := h
    rw [List.map_cons, ← keysOf_v t hks, keyOf_v (.inl r) hk]
theorem keyT_v {y : V} {d : D} {k : List Key} (hF : KeySafe) (r : RdB K H S y d) (h : keyTR d = some k) : ∃ b, y = .ref b ∧ H b = some (.tup (k.map kV)) := by
  unfold keyTR at h
  split at h
  · rename_i ds
    have r : Rep K H S y (ktD ds) := r.elim id fun ⟨_, _, q⟩ => q.noKt.elim
    obtain ⟨a, xs, rfl, n, e, z, al⟩ := r.toKt
    exact ⟨a, rfl, by rw [e, keysOf_v al h]⟩
  · cases d with
    | tuple ds =>
      have h : keyTR (.tuple ds) = some k := h
      obtain ⟨h2, hf⟩ := keyTR_T h
      obtain ⟨a, xs, rfl, n, e, z, al⟩ := r.tupRep.toTupX (by rw [← keysOf_len h2]; exact hF _ (keyTR_0 h).2) hf
      exact ⟨a, rfl, by rw [e, keysOf_v al h2]⟩
    | _ => simp [keyTR0, keyT] at h
end
section
variable {X : Cx} {κ : List SK} {M Me : List Nat} {k ka kb : RK} {a b e : Expr} {w wa wb : WE} {pos : Pos}
theorem se_dnewT : SE X κ M .nw (.Dict [] [] pos) (wC (dTD [])) := SE.of pe_dnewT fun σ H Q ⟨g, env, W, F, hw, post⟩ => fun p np => by
  refine post _ _ (g.add p) env _ (F.new np) (.new np) ⟨p, rfl, np, .inr rfl, fun q => F.own_ne (F.p_own q) np, ?_⟩ hw
  have := Obj1.dT (K := X.K) (H := upd H p (.dT [])) (S := (g.add p).own) (a := p) (kvs := []) (ds := []) upd_same .nil
  exact this
/-- d[k] = v, an own dict with tuple keys -/
theorem ss_dputT {i : Nat} {x : Str} {px spos : Pos} {ix : Expr} {kx rk : RK} {wx : WE} (hu : X.A.units + 1 < cLine) (ho : PE X (.Name x px) (tVar i)) (hv : SE X κ Me .fz e w) (hx : SE X κ Me kx ix wx) (hk : kindOf κ i = .o ∨ kindOf κ i = .q) (px' : kx.rdable = true := by rfl) (hi : i ∈ M := by decide) (sub : ∀ i ∈ Me, i ∈ M := by decide)
    (hs : swapsWith e (some (.Subscript (.Name x px) ix spos)) pos.line X.env = pure false := by rfl) (hF : KeySafe := by exact fun n h => by first | rfl | cases h | (cases (show n = 2 from eq_of_beq h); rfl)) : SS X κ M rk (.Assign [.Subscript (.Name x px) ix spos] e pos) (wDputT i w wx) :=
  SS.of (ps_dput hu ho hx hv hs) fun D σ H ⟨g, env, W, F, hw, n, b, c, r⟩ => ⟨g, env, _, F, hw, fun v H1 g1 e1 d F1 s1 r1 ⟨⟨m0, e0⟩, w1⟩ => by
    obtain ⟨v0, sv, sl⟩ := F1.ev i _ e0
    have sl' : ∃ a, v0 = .ref a ∧ g1.al i = some a ∧ Obj1 X.K H1 g1.own a (dTD m0) := by rcases hk with hk | hk <;> rw [hk] at sl <;> exact sl
    obtain ⟨a, rfl, ea, ob⟩ := sl'
    refine ⟨_, sv, g1, e1, _, F1, w1, fun y H2 g2 e2 d2 F2 s2 r2 ⟨kk, m, ed, e3, hlen, w2⟩ => ?_⟩
    obtain ⟨q, rfl, hq⟩ := keyT_v hF (r2.rdb px') ed
    obtain ⟨v1, sv1, sl1⟩ := F2.ev i _ e3
    rw [sv] at sv1; cases sv1
    have sl1' : ∃ a', V.ref a = .ref a' ∧ g2.al i = some a' ∧ Obj1 X.K H2 g2.own a' (dTD m) := by rcases hk with hk | hk <;> rw [hk] at sl1 <;> exact sl1
    obtain ⟨a', ee, ea1, ob1⟩ := sl1'
    cases ee
    have rv : Rep X.K H2 g2.own v d := Res.step (k := .fz) (H0 := H) r1 s2 F1 rfl
    obtain ⟨kvs, ds, hp, al, rfl⟩ := ob1.r.toDT
    have hkl : kvs.length < sizeLine := by
      have := al.length
      rw [List.length_zip, List.length_map, ← this, List.length_map, Nat.min_self] at hlen
      exact Nat.lt_of_lt_of_le hlen (by rw [sizeLine_eq]; decide)
    refine ⟨a, _, rfl, DPut.t hp hq hkl, ?_⟩
    have off : ∀ b x, ¬ g2.own b → H2 b = some x → (upd H2 a (.dT (putK kvs kk v))) b = some x := fun b x n e => by
      rw [upd_ne (fun z => n (by rw [z]; exact .inr ⟨i, ea1⟩))]; exact e
    obtain ⟨ds', al', ez⟩ := put_repT (k := kk) (rv.keep off fun _ q => .inl q) (al.keep off fun _ q => .inl q)
    have ob2 : Obj1 X.K (upd H2 a (.dT (putK kvs kk v))) g2.own a (dTD (putTD ((kvs.map fun p => tD p.1).zip ds) kk d)) := by
      rw [← ez]; exact .dT upd_same al'
    have F3 := F2.put (o := .dT (putK kvs kk v)) hk ea1 sv (fun ys z => by rw [hp] at z; cases z) ob2
    have s12 := ((s1.tr s2 F F1).mono sub).tr (.put (o := .dT (putK kvs kk v)) F2 ea1 hi) F F2
    exact n g2 _ σ _ F3 (s12.toS F F3) w2⟩
def sortTD : D → Option D
  | .dict ((.none, .none) :: m) => (pairsD (m.map (·.1))).map fun ps => .list ((psort ps).map dP)
  | _ => none
theorem zip_fst {α β : Type} : ∀ {xs : List α} {ys : List β}, xs.length = ys.length → (xs.zip ys).map (·.1) = xs
  | [], [], _ => rfl
  | x :: xs, y :: ys, h => by simp [zip_fst (xs := xs) (ys := ys) (by simpa using h)]
  | [], _ :: _, h => by simp at h
  | _ :: _, [], h => by simp at h
theorem tD_pairs : ∀ {ks : List (List Key)} {ps : List (Int × Int)}, pairsD (ks.map tD) = some ps → ks = ps.map fun p => [.inl p.1, .inl p.2]
  | [], ps, h => by simp [pairsD] at h; subst h; rfl
  | k :: ks, ps, h => by
    have := pairsD_map h
    cases ps with
    | nil => simp at this
    | cons p ps =>
      simp only [List.map_cons, List.cons.injEq] at this
      obtain ⟨e1, e2⟩ := this
      have hk : k = [.inl p.1, .inl p.2] := by
        have e3 := congrArg keyT e1
        rw [keyT_tD] at e3
        exact Option.some.inj e3
      have h2 : pairsD (ks.map tD) = some ps := by rw [e2]; exact pairsD_dP0 ps
      rw [List.map_cons, ← hk, ← tD_pairs h2]
theorem sortT_go (hF : KeySafe) {κ : List SK} {g : Rg} {env : En} {σ : St} {H : Hp} {p : Addr} {kvs : List (List Key × V)} {ds : List D} {dz : D} {Q : VK} (F : Frm X.K κ g env σ H) (ha : SrcT H p kvs) (al : RepAll X.K H g.own (kvs.map (·.2)) ds) (e : sortTD (dTD ((kvs.map fun p => tD p.1).zip ds)) = some dz)
    (h : ∀ v H' g', Frm X.K κ g' env σ H' → EStep [] g g' H H' → Res X.K g' .nw H H' v dz → Q v H') : rSortedT2 [.ref p] H Q := by
  simp only [sortTD] at e
  obtain ⟨ps, e2, rfl⟩ := Option.map_eq_some_iff.mp e
  rw [zip_fst (by have := al.length; rw [List.length_map] at this; rw [List.length_map, this])] at e2
  have hks : kvs.map (·.1) = ps.map fun p => [.inl p.1, .inl p.2] := tD_pairs (by rw [List.map_map]; exact e2)
  refine ⟨p, kvs, ps, rfl, ha, hks, fun xs ys l k hx hxs hs hb hy np => ?_⟩
  have rx : ∀ x ∈ xs, Rep X.K H g.own x (dP (k x)) := fun x hm => by
    obtain ⟨q, rfl, hq⟩ := hx x hm
    exact .tup (F.own_nt hq) (.inl ⟨plOkF (hF 2 rfl), hq⟩) (by rw [sizeLine_eq]; show 2 ≤ 2 ^ 24; decide) (.cons (.int _) (.cons (.int _) .nil))
  have rz : RepAll X.K H g.own ys ((ys.map k).map dP) := repAll_of fun x hm => rx x (hb.perm.mem_iff.mp hm)
  have e : ys.map k = psort ps := by
    refine psort_one ?_ ?_ (psort_sorted ps)
    · refine (hb.perm.map k).trans ?_
      rw [hxs]; exact (psort_perm ps).symm
    · rw [List.pairwise_map]
      refine hs.imp fun {x y} hxy => ?_
      have := SrtO.lexB_no.mp hxy
      unfold leP
      omega
  rw [e] at rz
  exact ok_lstN F rz hy np h
def sortTLD : List D → Option D
  | [d] => sortTD d
  | _ => none
/-- sorted(d.keys()) -/
def wKeysT (i : Nat) : WE := fun e Q => ∃ m z, e[i]? = some (some (dTD m)) ∧ sortTD (dTD m) = some z ∧ Q z e
theorem se_sortKeysT {i : Nat} {x : Str} {px p p2 apos : Pos} (hc : X.calm = true) (ho : PE X (.Name x px) (tVar i)) (hk : kindOf κ i = .o ∨ kindOf κ i = .q) (hg : Gl X "sorted") (hm : X.mg "sorted" = none)
    (hbase : attributeBase (.Name x px) "keys" X.env (eval (.Name x px) X.env) = eval (.Name x px) X.env := by rfl) (hline : (apos.endLine == p2.line) = true := by rfl)
    (he : starEach [.Call (.Attribute (.Name x px) "keys" apos) [] [] p2] X.env = (false, eval (.Call (.Attribute (.Name x px) "keys" apos) [] [] p2) X.env) :: starEach [] X.env := by rfl) (hpl : (backTo pos (starEach [] X.env)).any (·.1) = false := by rfl) (hF : KeySafe := by exact fun n h => by first | rfl | cases h | (cases (show n = 2 from eq_of_beq h); rfl)) :
    SE X κ M .nw (.Call (.Name "sorted" p) [.Call (.Attribute (.Name x px) "keys" apos) [] [] p2] [] pos) (wKeysT i) :=
  SE.of (pe_callB (cr_sortedT2 hc) hg hm bt_sorted (pa_cons (pe_bm0 PySem.F.plainAttrs_dict PySem.F.slot_dict_keys PySem.F.type_dict_keys mt_keysT ho hbase hline) pa_nil he) (by decide) (by decide) he hpl) fun σ H Q ⟨g, env, W, F, ⟨m, z, e1, ez, hw⟩, post⟩ => by
    obtain ⟨v0, sv, sl⟩ := F.ev i _ e1
    have sl' : ∃ a, v0 = .ref a ∧ g.al i = some a ∧ Obj1 X.K H g.own a (dTD m) := by rcases hk with hk | hk <;> rw [hk] at sl <;> exact sl
    obtain ⟨a, rfl, ea, ob⟩ := sl'
    obtain ⟨kvs, ds, ha, al, rfl⟩ := ob.r.toDT
    refine ⟨_, sv, .inr (.inr (.inl ⟨rfl, .inr ⟨_, ha⟩⟩)), a, kvs, rfl, rfl, ha, fun p np => ?_⟩
    have F1 := F.new0 (o := keysO p a) np
    have pa : a ≠ p := fun e => by rw [e, np] at ha; cases ha
    refine sortT_go hF F1 (.inr ⟨a, upd_same, by rw [upd_ne pa]; exact ha⟩) (al.keep (fun a o _ e => same_new np a o e) fun a q => .inl q) ez fun v H' g' F2 s2 r2 => ?_
    exact post v H' g' env z F2 ((EStep.new0 np).tr (s2.mono fun _ q => nomatch q) F F1) (r2.back fun q e => by
      cases h : H q with
      | none => rfl
      | some o => rw [same_new np _ _ h] at e; cases e) hw
def tupRevD : D → Option D
  | .list xs => some (.tuple xs.reverse)
  | _ => none
def shlD : D → D → Option D
  | .int a, .int b => if 0 ≤ b ∧ b ≤ 1000 ∧ a.natAbs < 2 ^ 64 then some (.int (a * 2 ^ b.toNat)) else none
  | _, _ => none
def shrD : D → D → Option D
  | .int a, .int b => if 0 ≤ b then some (.int (a / 2 ^ b.toNat)) else none
  | _, _ => none
def andBD : D → D → Option D
  | .int a, .int b => some (.int (Builtin.bitAnd a b))
  | _, _ => none
def orBD : D → D → Option D
  | .int a, .int b => some (.int (Builtin.bitOr a b))
  | _, _ => none
theorem od_shl {K : PySem.W.Frag} : OpD K (rI CPow fun i j => .int (i * 2 ^ j.toNat)) shlD .fz := by
  intro κ g env σ H x y dx dy dz Q F rx ry e h
  cases dx <;> cases dy <;> simp only [shlD] at e <;> first
    | (split at e
       · rename_i hm
         cases e; rw [rx.toInt, ry.toInt]; exact ⟨_, _, rfl, rfl, ⟨hm.1, by omega, hm.2.2⟩, ok_same F (.int _) h⟩
       · cases e)
    | cases e
theorem od_shr {K : PySem.W.Frag} : OpD K (rI (fun _ j => 0 ≤ j) fun i j => .int (i / 2 ^ j.toNat)) shrD .fz := by
  intro κ g env σ H x y dx dy dz Q F rx ry e h
  cases dx <;> cases dy <;> simp only [shrD] at e <;> first
    | (split at e
       · rename_i hm
         cases e; rw [rx.toInt, ry.toInt]; exact ⟨_, _, rfl, rfl, hm, ok_same F (.int _) h⟩
       · cases e)
    | cases e
theorem od_andB {K : PySem.W.Frag} : OpD K (rI0 fun i j => .int (Builtin.bitAnd i j)) andBD .fz := by
  intro κ g env σ H x y dx dy dz Q F rx ry e h
  cases dx <;> cases dy <;> simp only [andBD] at e <;> first
    | (cases e; rw [rx.toInt, ry.toInt]; exact ⟨_, _, rfl, rfl, ok_same F (.int _) h⟩)
    | cases e
theorem od_orB {K : PySem.W.Frag} : OpD K (rI0 fun i j => .int (Builtin.bitOr i j)) orBD .fz := by
  intro κ g env σ H x y dx dy dz Q F rx ry e h
  cases dx <;> cases dy <;> simp only [orBD] at e <;> first
    | (cases e; rw [rx.toInt, ry.toInt]; exact ⟨_, _, rfl, rfl, ok_same F (.int _) h⟩)
    | cases e
/-- a truth that is only read, as a test -/
theorem st_valR {a : Expr} {w : WE} {k : RK} (h : SE X κ M k a w) (hk : k.rdable = true := by rfl) (he : ∀ whole, isTrue a X.env whole = (do let v ← whole; standAt a.pos; holding [v] (truthy v)) := by intro _; rfl) : ST X κ M a (tVal w) :=
  ST.of (pt_val h he) fun σ H Q ⟨g, env, W, F, hw, post⟩ => ⟨g, env, _, F, hw, fun v H' g' env' d F' s r ⟨b, e, wb⟩ => by
    subst e
    exact ⟨b, ResBl hk r, post b H' g' env' F' s wb⟩⟩
def removeF (xs ys : List D) : Option (D × List D) := match ys with
  | [.int k] => (intsD xs).bind fun ns => if k ∈ ns then some (.none, (ns.erase k).map .int) else none
  | _ => none
def lenTD : List D → Option D
  | [.dict ((.none, .none) :: m)] => some (.int m.length)
  | _ => none
theorem bd_lenT {K : PySem.W.Frag} : BlD K rLenT lenTD .fz := by
  intro κ g env σ H vs ds dz Q F r e h
  unfold lenTD at e
  split at e
  · rename_i m
    cases e
    obtain ⟨v, rfl, rx⟩ := rda1 r
    obtain ⟨a, kvs, ds, rfl, ha, al, rfl⟩ := RdB.toDT (m := m) rx
    have hl : ((kvs.map fun p => tD p.1).zip ds).length = kvs.length := by
      have := al.length
      rw [List.length_map] at this
      rw [List.length_zip, List.length_map, ← this, Nat.min_self]
    exact ⟨a, kvs, rfl, ha, by rw [← hl]; exact ok_same F (.int _) h⟩
  · cases e
end
end G7

set_option maxRecDepth 100000
namespace G7
open PySem PySem.Spec PyProof.Rows L2
end G7

set_option maxRecDepth 100000
namespace G7
open PySem PySem.Spec PyProof.Rows L2
open Sem (wp)
set_option maxHeartbeats 1000000 in
theorem meets_enumerate_new1 {v : Value} {o : Obj} {H : Heap → Prop} (B : Begins v o H) :
    Meets (Builtin.«enumerate.__new__» ⟨[.type "enumerate", v], []⟩) (fun _ R s => H s.heap ∧
      R (.ok (.ret (.ref (s.heap.push o).objs.size))) { s with heap := (s.heap.push o).push { cls := .type "enumerate", data := .fields #[.none, .bool false, .ref s.heap.objs.size, rawInt 0, .none, .none] } }) :=
  .of_wp fun prog w A R s h => by
    obtain ⟨hp, g, d, tk, os⟩ := s; obtain ⟨h1, h⟩ := h
    have hsub := sub_enumerate
    have q1 : ∀ {A' : Around} {E : Value → Shared → Prop} {Q : Value → Shared → Prop}, Q (.ref hp.objs.size) ⟨hp.push o, g, d, tk, os⟩ → wpAny (model prog w) A' (pyIter v) Q E ⟨hp, g, d, tk, os⟩ :=
      fun q => B.iter prog w _ _ ⟨hp, g, d, tk, os⟩ _ h1 q
    wp_walk using q1
    refine wpAny_stack_any fun st => wpAny_pure ?_
    split
    · rename_i c _ _ _ _ _
      cases (c == Value.type "enumerate")
      · wp_walk using q1
        exact ⟨_, rfl, h⟩
      · wp_walk using q1
        exact ⟨_, rfl, h⟩
    · wp_walk using q1
      exact ⟨_, rfl, h⟩
section
variable {prog : Program} {w : World} {A : Around} {E : Value → Shared → Prop} {s : Shared}
theorem enum_begins1 {v : Value} {o : Obj} {H : Heap → Prop} {Q : Value → Shared → Prop} (B : Begins v o H) (h1 : H s.heap)
    (h : ∀ h', IsEnum h' (s.heap.objs.size + 1) s.heap.objs.size 0 .none → h'.get? s.heap.objs.size = some o → h'.objs.size = s.heap.objs.size + 2 →
      (∀ b o, s.heap.get? b = some o → h'.get? b = some o) → Q (.ref (s.heap.objs.size + 1)) { s with heap := h' }) :
    wpAny (model prog w) A (call (.type "enumerate") [v]) Q E s := by
  refine callType_new F.called_enumerate (by decide) (F.typeCall_enumerate_1 _) (F.newCall_enumerate_1 _) (fun obj => F.args_object_init_2 obj _) F.entry_enumerate_new
    (meets_enumerate_new1 B) ⟨h1, ?_⟩
  have hz : (s.heap.push o).objs.size = s.heap.objs.size + 1 := Heap.size_push ..
  show _ ∧ _
  rw [hz]
  have he : IsEnum ((s.heap.push o).push { cls := .type "enumerate", data := .fields #[.none, .bool false, .ref s.heap.objs.size, rawInt 0, .none, .none] }) (s.heap.objs.size + 1) s.heap.objs.size 0 .none := by
    have := Heap.get?_push_size (s.heap.push o) (o := { cls := .type "enumerate", data := .fields #[.none, .bool false, .ref s.heap.objs.size, rawInt 0, .none, .none] }) rfl
    rw [hz] at this; exact this
  refine ⟨⟨_, he, rfl⟩, h _ he (Heap.get?_push_of_some _ (Heap.get?_push_size _ B.free)) (by rw [Heap.size_push, hz]) fun b o x => Heap.get?_push_of_some _ (Heap.get?_push_of_some _ x)⟩
end
theorem enum_endT {prog : Program} {w : World} {A : Around} {E : Value → Shared → Prop} {s : Shared} {e it l : Addr} {i : Nat} {items : Array Value} {old : Value} {Q : Option Value → Shared → Prop} (hh : A.handled = none)
    (he : IsEnum s.heap e it i old) (hit : s.heap.IsTupleIter it l i) (hl : s.heap.IsTuple l items) (hx : items[i]? = none)
    (hQ : ∀ h', Heap.ExtBut it s.heap h' → Q none { s with heap := h' }) : wpAny (model prog w) A (pyNext (.ref e)) Q E s := by
  have hT : s.TypeIs (.ref e) "enumerate" := ⟨_, he, rfl⟩
  unfold pyNext
  refine wpAny_bind (wpAny_attempt (wpAny_callSpecial?_slot (name := Str.ofString "__next__") hT F.slot_enumerate_next
    (wpAny_call_entry F.slot_enumerate_next hT F.entry_enumerate_next ?_ (F.args_enumerate_next_1 _))))
  show wpAny _ _ (field (.ref e) 2 >>= _) _ _ _
  refine wpAny_bind (wpAny_field he rfl (x := .ref it) rfl ?_)
  refine wpAny_bind (RZ.nextOf_tuple_end hh hit hl hx fun h' x he' hx' => ?_)
  obtain ⟨o, ho, hc⟩ := hx'
  refine wpAny_bind (wpAny_isInstance (T := "StopIteration") (b := true) ⟨o, ho, hc⟩ isSubtype_stop ?_)
  exact wpAny_pure (hQ _ he')
/-- the tuple at a, each item in a new pair -/
def IteT (K : PySem.W.Frag) (a : Addr) : It :=
  ⟨fun i H => ∃ (xs : List V) (x : V), SqT K H a xs ∧ xs[i]? = some x, fun i H v H' => ∃ T x, v = .ref T ∧ H T = none ∧ H' = L2.upd H T (.tup [.int (i : Nat), x]) ∧ ∀ xs, SqT K H a xs → xs[i]? = some x, fun i H => ∃ xs : List V, SqT K H a xs ∧ xs.length ≤ i⟩
theorem turn_enumT {P : Program} {w : World} {K : PySem.W.Frag} {elts : List Expr} {kk : Nat} {tpos : Pos} (a e it : Addr) :
    Turn P w K (.Tuple elts kk tpos) (IteT K a) [e, it] e (fun i h => (∃ old, IsEnum h e it ((i : Nat) : Int) old) ∧ h.IsTupleIter it a i ∧ e ≠ it) where
  mem := by simp
  obj := fun i h st b hb => by
    obtain ⟨⟨old, he⟩, ⟨o, ho, hc, hd⟩, _⟩ := st
    have e' : b = e ∨ b = it := by simpa using hb
    rcases e' with z | z
    · rw [z]; exact ⟨_, he, fun v q => nomatch q⟩
    · rw [z]; exact ⟨o, ho, fun v q => by rw [hd] at q; cases q⟩
  keep := fun i h h' st k => let ⟨⟨old, he⟩, hi, hne⟩ := st; ⟨⟨old, k e (by simp) _ he⟩, hi.at fun o q => k it (by simp) o q, hne⟩
  item := by
    intro X hP hw hK hc i pins s σ H E I hf st hg
    subst hP hw hK
    obtain ⟨⟨old, he⟩, hit, hne⟩ := st
    obtain ⟨xs, x, hq, hx⟩ := hg
    obtain ⟨its, rv, p, hz⟩ := I.tuple hq
    obtain ⟨u, hu, ru⟩ := rv.get hx
    have hel : e < s.heap.objs.size := Heap.lt_size he
    have hil : it < s.heap.objs.size := by obtain ⟨_, q, _⟩ := hit; exact Heap.lt_size q
    have pt : s.heap.IsTuple a its.toArray := p
    have hai : a ≠ it := fun z => by
      obtain ⟨o1, h1, c1, _⟩ := pt
      obtain ⟨o2, h2, c2, _⟩ := hit
      rw [z, h2] at h1; cases h1
      rw [c2] at c1; exact absurd c1 (by decide)
    have hea : e ≠ a := fun z => by
      obtain ⟨o1, h1, c1, _⟩ := pt
      have h2 : s.heap.get? e = some _ := he
      rw [z, h1] at h2; cases h2
      have c2 : (Value.type "enumerate") = Value.type "tuple" := c1
      exact absurd c2 (by decide)
    have hlt : i < its.toArray.size := by
      have := (List.getElem?_eq_some_iff.mp hu).1
      simpa using this
    refine wpAny_pyNext_enum_itemD (Draws.tuple (A := X.A.in1) (show X.A.in1.handled = none from I.ok.hd hc) it a hai its.toArray) he ⟨hit, pt⟩ hlt hne (by simp [hne, hea]) fun u' h' tk hu' ho hs' hT hsz hk => ?_
    have eu : u' = u := by
      have h1 : its[i]? = some u' := by simpa using hu'
      rw [hu] at h1; exact (Option.some.inj h1).symm
    subst eu
    refine ⟨_, rfl, wpAny_letOwnedTupleGo_enum (s := { s with heap := h', toks := tk + 1 }) ho fun h'' he' sb => ?_⟩
    have hT2 : h''.get? s.heap.objs.size = some { cls := .type "tuple", data := .seq #[.int i tk, u'] } := (sb.2 _ (Nat.ne_of_gt hel)).trans hT
    have new : ObjOk X.prog X.w (L2.upd H s.heap.objs.size (.tup [.int (i : Nat), x])) h'' s.heap.objs.size (.tup [.int (i : Nat), x]) :=
      ⟨by show 2 ≤ sizeLine; decide, [.int i tk, u'], .cons ⟨_, rfl⟩ (.cons ru .nil), ⟨_, hT2, rfl, _, rfl⟩⟩
    have I1 : Inv X pins σ (L2.upd H s.heap.objs.size (.tup [.int (i : Nat), x])) { s with heap := h'', toks := tk + 1 } :=
      I.turnedNew (ch := [e, it]) (fun b ob hb q => (sb.2 b (fun z => hb (by simp [z]))).trans (hk b ob (fun z => hb (by simp [z])) (fun z => hb (by simp [z])) q)) hf (Nat.le_refl _) new
    refine ⟨.ref s.heap.objs.size, _, I1, rfl, ⟨_, x, rfl, I.hok.fresh (Nat.le_refl _), rfl, fun ys hy => by rw [I.tuple_inj hy hq]; exact hx⟩, ⟨⟨u', ?_⟩, hs'.1.at fun o q => (sb.2 it (Ne.symm hne)).trans q, hne⟩, fun b hb => ?_⟩
    · have e1 : ((i + 1 : Nat) : Int) = (i : Int) + 1 := by omega
      rw [e1]; exact he'
    · have hb' : b < s.heap.objs.size := by
        have e' : b = e ∨ b = it := by simpa using hb
        rcases e' with z | z
        · rw [z]; exact hel
        · rw [z]; exact hil
      rw [L2.upd_ne (Nat.ne_of_lt hb')]
      exact (hf b hb).1
  done := by
    intro X hP hw hK hc i pins s σ H E I hf st hg
    subst hP hw hK
    obtain ⟨⟨old, he⟩, hit, hne⟩ := st
    obtain ⟨xs, hq, hx⟩ := hg
    obtain ⟨its, rv, p, hz⟩ := I.tuple hq
    obtain ⟨f0, f1, f2, f3, f4, f5⟩ := hf it (by simp)
    have hl := rv.length
    exact enum_endT (I.ok.hd hc) he hit (show s.heap.IsTuple a its.toArray from p) (by simp; omega) fun h' eb => ⟨rfl, I.turned (t' := s.toks) (fun b o hb q => eb b o hb q) f0 f1 f3 f4 f5⟩
  self := fun A i s Q E st h => let ⟨⟨_, he⟩, _⟩ := st; wpAny_pyIter_enum he h
def iEnumA (K : PySem.W.Frag) (ta : TA) : TI := fun σ H R => ta σ H fun vs H1 => ∃ a xs, vs = [.ref a] ∧ ((SqL K H1 a xs ∧ R (Ite K a) H1) ∨ (SqT K H1 a xs ∧ R (IteT K a) H1))
theorem pi_enumA {X : Cx} {e : Expr} {ta : TA} {p pos tpos : Pos} {elts : List Expr} {kk : Nat} (hg : Gl X "enumerate") (hm : X.mg "enumerate" = none) (ha : PA X [e] ta) (hs : starEach [e] X.env = [(false, eval e X.env)] := by rfl) :
    PI X (.Tuple elts kk tpos) (.Call (.Name "enumerate" p) [e] [] pos) (iEnumA X.K ta) := by
  refine ⟨fun pins s σ H R I h => ?_⟩
  refine Call_ (ld_blt I hg hm boot_enumerate (PyProof.Rows.callWith_type1 (thn (ha.run pos pins s σ H _ I h) fun us s1 ⟨vs, H1, I1, r1, q1⟩ => ?_) hs rfl))
  obtain ⟨a, xs, ex, hq⟩ := q1
  subst ex
  cases r1 with
  | cons r rr =>
    cases rr
    cases r
    rcases hq with ⟨hq, q⟩ | ⟨hq, q⟩
    · obtain ⟨its, rv, p', hz⟩ := I1.list hq
      refine enum_begins1 (begins_list a its.toArray) p'.isList fun h' he hit hsz hk => wpAny_pyIter_enum he ?_
      have I2 : Inv X pins σ H1 { s1 with heap := h' } := I1.kept (t' := s1.toks) hk
      refine ⟨s1.heap.objs.size + 1, [s1.heap.objs.size + 1, s1.heap.objs.size], _, _, H1, rfl, I2, turn_enum a (s1.heap.objs.size + 1) s1.heap.objs.size, ⟨⟨.none, he⟩, ⟨_, hit, rfl, rfl⟩, Nat.succ_ne_self _⟩, fun b hb => ?_, q⟩
      have e' : b = s1.heap.objs.size + 1 ∨ b = s1.heap.objs.size := by simpa using hb
      have hle : s1.heap.objs.size ≤ b := by
        rcases e' with z | z
        · rw [z]; exact Nat.le_add_right _ _
        · rw [z]; exact Nat.le_refl _
      exact I1.fpOk hle (I1.hok.fresh hle)
    · obtain ⟨its, rv, p', hz⟩ := I1.tuple hq
      refine enum_begins1 (begins_tuple a its.toArray) (show s1.heap.IsTuple a its.toArray from p') fun h' he hit hsz hk => wpAny_pyIter_enum he ?_
      have I2 : Inv X pins σ H1 { s1 with heap := h' } := I1.kept (t' := s1.toks) hk
      refine ⟨s1.heap.objs.size + 1, [s1.heap.objs.size + 1, s1.heap.objs.size], _, _, H1, rfl, I2, turn_enumT a (s1.heap.objs.size + 1) s1.heap.objs.size, ⟨⟨.none, he⟩, ⟨_, hit, rfl, rfl⟩, Nat.succ_ne_self _⟩, fun b hb => ?_, q⟩
      have e' : b = s1.heap.objs.size + 1 ∨ b = s1.heap.objs.size := by simpa using hb
      have hle : s1.heap.objs.size ≤ b := by
        rcases e' with z | z
        · rw [z]; exact Nat.le_add_right _ _
        · rw [z]; exact Nat.le_refl _
      exact I1.fpOk hle (I1.hok.fresh hle)
theorem enum_len {xs : List D} : (enumD xs).length = xs.length := by
  unfold enumD
  rw [zip_len, rangeD_len]; omega
theorem enum_get {xs : List D} {i : Nat} {x : D} (h : xs[i]? = some x) : (enumD xs)[i]? = some (.tuple [.int (i : Int), x]) := by
  have hi := (List.getElem?_eq_some_iff.mp h).1
  refine zip_get ?_ h
  rw [rangeD_get (by omega)]; simp
theorem walk_e {K : PySem.W.Frag} {N : List Nat} {a : Addr} {xs : List D} : Walk K (Ite K a) true (enumD xs) (Src K N a xs true) where
  go := fun g H i h1 _ hi => by
    rw [enum_len] at hi
    obtain ⟨vs, q, al⟩ := sq_l h1
    obtain ⟨v, e, _⟩ := al.get (List.getElem?_eq_getElem hi)
    exact ⟨vs, v, q, e⟩
  yd := fun g H i v H' h1 tr hi ⟨T, x, e, n, eH, f1⟩ => by
    obtain ⟨vs, q, al⟩ := sq_l h1
    subst e eH
    obtain ⟨dx, ex, rx⟩ := al.getV (f1 vs q)
    exact ⟨same_new n, _, enum_get ex, pair_rep n (.int _) rx⟩
  stop := fun g H h1 => by
    obtain ⟨vs, q, al⟩ := sq_l h1
    exact ⟨vs, q, by rw [enum_len, al.length]; exact Nat.le_refl _⟩
  lenL := fun g H h1 => by rw [enum_len]; exact src_len h1
theorem walk_et {K : PySem.W.Frag} {N : List Nat} {a : Addr} {xs : List D} : Walk K (IteT K a) true (enumD xs) (Src K N a xs false) where
  go := fun g H i h1 _ hi => by
    rw [enum_len] at hi
    obtain ⟨vs, q, al⟩ := sq_t h1
    obtain ⟨v, e, _⟩ := al.get (List.getElem?_eq_getElem hi)
    exact ⟨vs, v, q, e⟩
  yd := fun g H i v H' h1 tr hi ⟨T, x, e, n, eH, f1⟩ => by
    obtain ⟨vs, q, al⟩ := sq_t h1
    subst e eH
    obtain ⟨dx, ex, rx⟩ := al.getV (f1 vs q)
    exact ⟨same_new n, _, enum_get ex, pair_rep n (.int _) rx⟩
  stop := fun g H h1 => by
    obtain ⟨vs, q, al⟩ := sq_t h1
    exact ⟨vs, q, by rw [enum_len, al.length]; exact Nat.le_refl _⟩
  lenL := fun g H h1 => by rw [enum_len]; exact src_len h1
theorem si_enum {X : Cx} {κ : List SK} {M : List Nat} {k : RK} {a : Expr} {w : WE} {p pos : Pos} {elts : List Expr} {kk : Nat} {tpos : Pos} (hg : Gl X "enumerate") (hm : X.mg "enumerate" = none) (ha : SE X κ M k a w) (pa : k.rdable = true := by rfl)
    (hs : starEach [a] X.env = [(false, eval a X.env)] := by rfl) (he : starEach [a] X.env = (false, eval a X.env) :: starEach [] X.env := by rfl) : SI X κ M (nOf k) (.Tuple elts kk tpos) (.Call (.Name "enumerate" p) [a] [] pos) (wiEnum w) :=
  SI.of (pi_enumA hg hm (pa_cons ha pa_nil he) hs) fun σ H R ⟨g, env, W, F, hw, post⟩ => ⟨g, env, _, F, hw, fun v H1 g1 e1 d F1 s1 r1 ⟨xs, ex, w1⟩ => by
    obtain ⟨c, l, rfl, sr⟩ := src_of F1 pa r1 ex
    cases l with
    | true =>
      obtain ⟨vs, q, _⟩ := sq_l sr
      exact ⟨c, vs, rfl, .inl ⟨q, post _ H1 g1 e1 _ _ F1 s1 sr (src_holds (n9 _)) walk_e w1⟩⟩
    | false =>
      obtain ⟨vs, q, _⟩ := sq_t sr
      exact ⟨c, vs, rfl, .inr ⟨q, post _ H1 g1 e1 _ _ F1 s1 sr (src_holds (n9 _)) walk_et w1⟩⟩⟩
end G7

set_option maxRecDepth 100000
namespace G7
open PySem PySem.Spec PyProof.Rows L2
def wPar (i j : Nat) (a : WA) : WS := fun W e => a e fun ds e1 => ∃ x y, ds = [x, y] ∧ W.nx ((e1.set i (some x)).set j (some y))
theorem i_par {i j : Nat} {a : WA} {nx bk ct : En → Prop} {rt : D → En → Prop} {e : En} (k : a e fun ds e1 => ∃ x y, ds = [x, y] ∧ nx ((e1.set i (some x)).set j (some y))) : wPar i j a ⟨nx, rt, bk, ct⟩ e := k

end G7

set_option maxRecDepth 100000
namespace G7
open PySem PySem.Spec PyProof.Rows L2
/-- the slot's thing as kept -/
def toF : Nat → En → En
  | 0, some d :: e => some (.tuple [d]) :: e
  | n + 1, x :: e => x :: toF n e
  | _, e => e
theorem toF_len : ∀ (i : Nat) (e : En), (toF i e).length = e.length
  | 0, [] => rfl
  | 0, none :: _ => rfl
  | 0, some _ :: _ => rfl
  | _ + 1, [] => rfl
  | n + 1, _ :: e => by simp [toF, toF_len n e]
theorem toF_ne : ∀ (i j : Nat) (e : En), j ≠ i → (toF i e)[j]? = e[j]?
  | 0, _, [], _ => rfl
  | 0, _, none :: _, _ => rfl
  | 0, 0, some _ :: _, h => absurd rfl h
  | 0, j + 1, some _ :: _, _ => rfl
  | _ + 1, _, [], _ => rfl
  | n + 1, 0, _ :: e, _ => rfl
  | n + 1, j + 1, _ :: e, h => by simp only [toF, List.getElem?_cons_succ]; exact toF_ne n j e fun c => h (by rw [c])
theorem toF_at : ∀ (i : Nat) (e : En) (d : D), (toF i e)[i]? = some (some d) → ∃ d', e[i]? = some (some d') ∧ d = .tuple [d']
  | 0, [], _, h => by simp [toF] at h
  | 0, none :: _, _, h => by simp [toF] at h
  | 0, some x :: _, d, h => by simp [toF] at h; exact ⟨x, rfl, h.symm⟩
  | _ + 1, [], _, h => by simp [toF] at h
  | n + 1, _ :: e, d, h => by simp only [toF, List.getElem?_cons_succ] at h ⊢; exact toF_at n e d h
def NT (d : D) : Prop := ∀ d', d ≠ .tuple [d']
theorem nt_l {xs : List D} : NT (.list xs) := fun _ h => by cases h
theorem nt_d {xs : List (D × D)} : NT (.dict xs) := fun _ h => by cases h
def ownE (i : Nat) (e : En) : Prop := ∀ d, e[i]? = some (some d) → NT d
/-- s, the slot being own -/
def wAsO (i : Nat) (s : WS) : WS := fun W e => ownE i e ∧ s W e
def WD.wrap (W : WD) (i : Nat) : WD := ⟨fun e => W.nx (toF i e), fun d e => W.rt d (toF i e), fun e => W.bk (toF i e), fun e => W.ct (toF i e)⟩
/-- s, the slot being told for good -/
def wAsV (i : Nat) (s : WS) : WS := fun W e => ∃ d, e[i]? = some (some (.tuple [d])) ∧ s (W.wrap i) (e.set i (some d))
/-- the slot's thing is nobody's own from here on -/
def wFrz (i : Nat) (s : WS) : WS := fun W e => ∃ d, e[i]? = some (some d) ∧ NT d ∧ s W (e.set i (some (.tuple [d])))

section
variable {K : PySem.W.Frag} {κ : List SK} {g g' : Rg} {env env' : En} {σ : St} {H H' : Hp} {M : List Nat} {i j : Nat} {v : V} {d : D} {k : RK} {x : SK}
theorem kind_lt (hk : kindOf κ i = .f) : i < κ.length := by
  apply Classical.byContradiction
  intro c
  unfold kindOf at hk
  rw [List.getElem?_eq_none (by omega)] at hk
  cases hk
theorem kind_set (hk : kindOf κ i = .f) : kindOf (κ.set i x) i = x := by
  unfold kindOf
  rw [List.getElem?_set_self (kind_lt hk)]; rfl
theorem kind_ne (h : j ≠ i) : kindOf (κ.set i x) j = kindOf κ j := by
  unfold kindOf
  rw [List.getElem?_set_ne fun c => h c.symm]
theorem Frm.toO (F : Frm K κ g env σ H) (hk : kindOf κ i = .f) (ho : ownE i env) : Frm K (κ.set i .o) g env σ H := by
  refine ⟨by rw [List.length_set]; exact F.ln, by rw [List.length_set]; exact F.sl, fun j d e => ?_, F.inj, F.alo', F.ot', F.il, F.pl⟩
  obtain ⟨v, e1, s⟩ := F.ev j d e
  refine ⟨v, e1, ?_⟩
  by_cases hj : j = i
  · subst hj
    rw [kind_set hk]
    rw [hk] at s
    rcases s with s | ⟨d', e', _⟩
    · exact s
    · exact absurd e' (ho d e d')
  · rw [kind_ne hj]; exact s
theorem Frm.ofO (F : Frm K (κ.set i .o) g env σ H) (hk : kindOf κ i = .f) : Frm K κ g env σ H := by
  refine ⟨by rw [F.ln, List.length_set], by rw [F.sl, List.length_set], fun j d e => ?_, F.inj, F.alo', F.ot', F.il, F.pl⟩
  obtain ⟨v, e1, s⟩ := F.ev j d e
  refine ⟨v, e1, ?_⟩
  by_cases hj : j = i
  · subst hj
    rw [kind_set hk] at s
    rw [hk]
    exact .inl s
  · rw [kind_ne hj] at s; exact s
theorem Frm.toV (F : Frm K κ g env σ H) (hk : kindOf κ i = .f) (e0 : env[i]? = some (some (.tuple [d]))) : Frm K (κ.set i .v) g (env.set i (some d)) σ H := by
  refine ⟨by rw [List.length_set, List.length_set]; exact F.ln, by rw [List.length_set]; exact F.sl, fun j d2 e => ?_, F.inj, F.alo', F.ot', F.il, F.pl⟩
  by_cases hj : j = i
  · subst hj
    rw [List.getElem?_set_self (by rw [F.ln]; exact kind_lt hk)] at e
    cases e
    obtain ⟨v, e1, s⟩ := F.ev _ _ e0
    rw [kind_set hk]
    rw [hk] at s
    rcases s with ⟨a, _, _, s⟩ | ⟨d', e', s⟩
    · cases s
    · cases e'; exact ⟨v, e1, s⟩
  · rw [List.getElem?_set_ne fun c => hj c.symm] at e
    rw [kind_ne hj]
    exact F.ev j d2 e
theorem Frm.ofV (F : Frm K (κ.set i .v) g env σ H) (hk : kindOf κ i = .f) : Frm K κ g (toF i env) σ H := by
  refine ⟨by rw [toF_len, F.ln, List.length_set], by rw [F.sl, List.length_set], fun j d e => ?_, F.inj, F.alo', F.ot', F.il, F.pl⟩
  by_cases hj : j = i
  · subst hj
    obtain ⟨d', e', rfl⟩ := toF_at _ _ _ e
    obtain ⟨v, e1, s⟩ := F.ev j d' e'
    rw [kind_set hk] at s
    rw [hk]
    exact ⟨v, e1, .inr ⟨d', rfl, s⟩⟩
  · rw [toF_ne _ _ _ hj] at e
    obtain ⟨v, e1, s⟩ := F.ev j d e
    rw [kind_ne hj] at s
    exact ⟨v, e1, s⟩
theorem SStep.kind (h : SStep (κ.set i x) M g g' H H') (hk : kindOf κ i = .f) : SStep κ M g g' H H' := by
  have kk : ∀ j, (kindOf (κ.set i x) j = .o ∨ kindOf (κ.set i x) j = .f) → (kindOf κ j = .o ∨ kindOf κ j = .f) := fun j kj => by
    by_cases c : j = i
    · exact .inr (by rw [c]; exact hk)
    · rw [kind_ne c] at kj; exact kj
  refine ⟨h.pu, h.pd, h.up, h.dn, fun b a e => (h.al b a e).imp id (Or.imp (fun ⟨j, hj, kj, z⟩ => ⟨j, hj, kk j kj, z⟩) id), h.I, fun j q => h.qs j ?_, h.keep, h.th, h.pool⟩
  rw [kind_ne fun c => by rw [c, hk] at q; exact absurd q (by decide)]
  exact q
theorem ResR.kind (r : ResR K (κ.set i x) k g H H' v d) (hk : kindOf κ i = .f) (hx : x = .o ∨ x = .v) : ResR K κ k g H H' v d := by
  have hb : ∀ a, baseO κ g a → baseO (κ.set i x) g a := fun a q => q.imp id fun ⟨j, hj, e⟩ => ⟨j, by rw [kind_ne fun c => by rw [c, hk] at hj; cases hj]; exact hj, e⟩
  have less : ∀ {v d}, Rep K H' (baseO (κ.set i x) g) v d → Rep K H' (baseO κ g) v d := fun r => r.keep (fun _ _ _ q => q) fun a q => .inl (hb a q)
  cases k with
  | nw =>
    obtain ⟨p, rfl, n, r⟩ := r
    refine ⟨p, rfl, n.imp id fun ⟨j, hj, e⟩ => ⟨j, ?_, e⟩, r.keep (fun _ q => q) (fun _ _ _ q => q) fun a q => .inl (q.imp (hb a) id)⟩
    by_cases c : j = i
    · subst c; exact .inr hk
    · rw [kind_ne c] at hj; exact hj
  | fz => exact less r
  | rd => exact less r
  | ow i => exact less r
  | pl => exact less r
  | np => exact less r
/-- the frame with the slot's thing let go -/
theorem Frm.frz (F : Frm K κ g env σ H) (hk : kindOf κ i = .f) (e0 : env[i]? = some (some d)) (nt : NT d) : ∃ g', Frm K κ g' (env.set i (some (.tuple [d]))) σ H ∧ SStep κ M g g' H H := by
  obtain ⟨v0, ev0, s0⟩ := F.ev i d e0
  rw [hk] at s0
  rcases s0 with ⟨p, rfl, ep, r⟩ | ⟨d', e', _⟩
  · have own : ∀ a, Rg.own ⟨g.O, g.P, g.I, fun j => if j = i then none else g.al j⟩ a → g.own a := fun a q => by
      rcases q with q | ⟨j, q⟩
      · exact .inl q
      · simp only at q
        split at q
        · cases q
        · exact .inr ⟨j, q⟩
    have np : ¬ Rg.own ⟨g.O, g.P, g.I, fun j => if j = i then none else g.al j⟩ p := fun q => by
      rcases q with q | ⟨j, q⟩
      · exact (F.alo i p ep).1 q
      · simp only at q
        split at q
        · cases q
        · next c => exact c (F.inj j i p q ep)
    refine ⟨⟨g.O, g.P, g.I, fun j => if j = i then none else g.al j⟩, ⟨by simp [F.ln], F.sl, fun j d' e => ?_, fun j j' a e e' => ?_, fun j a e => ?_, F.ot', F.il, F.pl⟩, ⟨fun _ q => q, fun _ q => .inl q, fun _ q => q, fun _ q => .inl q, fun j a e => ?_, rfl, fun j q => ?_, fun _ _ q _ _ _ => q, fun _ q => q, fun b q => (F.pl b q).2⟩⟩
    · by_cases hj : j = i
      · subst hj
        rw [List.getElem?_set_self (by rw [F.ln]; exact kind_lt hk)] at e
        cases e
        refine ⟨_, ev0, ?_⟩
        rw [hk]
        exact .inr ⟨d, rfl, (r.keep (fun _ q => q) (fun _ _ _ q => q) fun a q => .inl (own a q)).rep np⟩
      · rw [List.getElem?_set_ne fun c => hj c.symm] at e
        obtain ⟨v', e1, s'⟩ := F.ev j d' e
        refine ⟨v', e1, ?_⟩
        cases hkj : kindOf κ j <;> rw [hkj] at s' <;> unfold SlotK at s' ⊢ <;> simp only at s' ⊢
        · exact s'
        · exact Rep.keep (fun _ _ _ q => q) (fun a q => .inl (own a q)) s'
        · rcases s' with s' | ⟨a, rfl, np, na, s'⟩
          · exact .inl (Rep.keep (fun _ _ _ q => q) (fun a q => .inl (own a q)) s')
          · exact .inr ⟨a, rfl, np, na, s'.keep (fun _ q => q) (fun _ _ _ q => q) fun a q => .inl (own a q)⟩
        · obtain ⟨a, rfl, ea, s'⟩ := s'
          exact ⟨a, rfl, by simp [hj, ea], s'.keep (fun _ q => q) (fun _ _ _ q => q) fun a q => .inl (own a q)⟩
        · obtain ⟨a, rfl, ea, s'⟩ := s'
          exact ⟨a, rfl, by simp [hj, ea], s'.keep (fun _ q => q) (fun _ _ _ q => q) fun a q => .inl (own a q)⟩
        · obtain ⟨a, rfl, ea, s'⟩ := s'
          exact ⟨a, rfl, by simp [hj, ea], s'.keep (fun _ q => q) (fun _ _ _ q => q) fun a q => .inl (own a q)⟩
        · exact s'
        · rcases s' with ⟨a, rfl, ea, s'⟩ | ⟨d', e', s'⟩
          · exact .inl ⟨a, rfl, by simp [hj, ea], s'.keep (fun _ q => q) (fun _ _ _ q => q) fun a q => .inl (own a q)⟩
          · exact .inr ⟨d', e', Rep.keep (fun _ _ _ q => q) (fun a q => .inl (own a q)) s'⟩
    · simp only at e e'
      split at e
      · cases e
      · split at e'
        · cases e'
        · exact F.inj j j' a e e'
    · simp only at e
      split at e
      · cases e
      · exact F.alo' j a e
    · simp only at e
      split at e
      · cases e
      · exact .inl e
    · have : j ≠ i := fun c => by rw [c, hk] at q; cases q
      simp [this]
  · exact absurd e' (nt d')
end
section
variable {X : Cx} {κ : List SK} {M Me : List Nat} {k ke : RK} {st : Stmt} {e : Expr} {w wa : WE} {s : WS} {i : Nat}
theorem ss_asO (i : Nat) (hk : kindOf κ i = .f) (h : SS X (κ.set i .o) M k st s) : SS X κ M k st (wAsO i s) :=
  SS.of h fun D σ H ⟨g, env, W, F, ⟨ho, hw⟩, n, b, c, r⟩ => ⟨g, env, W, F.toO hk ho, hw, fun g' env' σ' H' F' s' => n g' env' σ' H' (F'.ofO hk) (s'.kind hk), fun g' env' σ' H' F' s' => b g' env' σ' H' (F'.ofO hk) (s'.kind hk),
    fun g' env' σ' H' F' s' => c g' env' σ' H' (F'.ofO hk) (s'.kind hk), fun g' env' σ' H' v d F' s' rr => r g' env' σ' H' v d (F'.ofO hk) (s'.kind hk) (rr.kind hk (.inl rfl))⟩
theorem ss_asV (i : Nat) (hk : kindOf κ i = .f) (h : SS X (κ.set i .v) M k st s) : SS X κ M k st (wAsV i s) :=
  SS.of h fun D σ H ⟨g, env, W, F, ⟨d, e0, hw⟩, n, b, c, r⟩ => ⟨g, _, _, F.toV hk e0, hw, fun g' env' σ' H' F' s' => n g' _ σ' H' (F'.ofV hk) (s'.kind hk), fun g' env' σ' H' F' s' => b g' _ σ' H' (F'.ofV hk) (s'.kind hk),
    fun g' env' σ' H' F' s' => c g' _ σ' H' (F'.ofV hk) (s'.kind hk), fun g' env' σ' H' v d F' s' rr => r g' _ σ' H' v d (F'.ofV hk) (s'.kind hk) (rr.kind hk (.inr rfl))⟩
theorem ss_frz (i : Nat) (hk : kindOf κ i = .f) (h : SS X κ M k st s) : SS X κ M k st (wFrz i s) :=
  SS.of h fun D σ H ⟨g, env, W, F, ⟨d, e0, nt, hw⟩, n, b, c, r⟩ => by
    obtain ⟨g1, F1, s1⟩ := F.frz (M := M) hk e0 nt
    exact cS.go (K := X.K) (g := g) (H := H) (W1 := W) (D' := D) F1 s1 hw n b c r
end
end G7

set_option maxRecDepth 100000
namespace G7
open PySem PySem.Spec PyProof.Rows L2
end G7

set_option maxRecDepth 100000
namespace G7
open PySem PySem.Spec PyProof.Rows L2
def wDisp1 (a b : WE) : WE := fun e Q => a e fun x e1 => b e1 fun y e2 => (∃ k, keyOf x = some k) ∧ Q (.dict [(x, y)]) e2
def wDget2 (a b c : WE) : WE := fun e Q => a e fun x e1 => ∃ m, x = .dict m ∧ plainM m = true ∧ b e1 fun y e2 => c e2 fun z e3 => ∃ k, keyOf y = some k ∧ Q ((lookD m k).getD z) e3
def wLstZip (a b : WE) : WE := fun e Q => a e fun x e1 => b e1 fun y e2 => ∃ xs ys, seqD x = some xs ∧ seqD y = some ys ∧ Q (.list (zipD xs ys)) e2
section
variable {X : Cx} {κ : List SK} {M Me : List Nat} {k ka kb kc : RK} {a b c e : Expr} {w wa wb wc : WE} {pos : Pos}
theorem se_disp1 (ha : SE X κ M ka a wa) (hb : SE X κ M .fz b wb) (hs : stable ka M = true := by rfl) (pa : ka.rdable = true := by rfl) : SE X κ M .nw (.Dict [some a] [b] pos) (wDisp1 wa wb) :=
  SE.of (pe_disp (pps_cons ha hb pps_nil) rfl rfl (by simp) (by simp)) fun σ H Q ⟨g, env, W, F, hw, post⟩ p np => by
    refine ⟨g.add p, env, _, F.new np, hw, fun x H1 g1 e1 d1 F1 s1 r1 w1 => ⟨g1, e1, _, F1, w1, fun y H2 g2 e2 d2 F2 s2 r2 w2 => ?_⟩⟩
    obtain ⟨⟨kk, hk⟩, wz⟩ := w2
    have F0 := F.new (o := .dK []) np
    have s := s1.tr s2 F0 F1
    have hO : (g.add p).O p := .inr rfl
    have hP : ¬ (g.add p).P p := fun q => F.own_ne (F.p_own q) np
    have hI : ¬ (g.add p).I p := fun q => F.ot p (F.il p q) np
    have hal : ∀ i ∈ M, (g.add p).al i ≠ some p := fun i _ q => (F.alo i p q).2 np
    have hp : H2 p = some (.dK []) := s.keep p _ upd_same hP hal
    have em : mergeK [] [(kk, y)] = [(kk, y)] := by simp [mergeK, putK]
    have F3 : Frm X.K κ g2 e2 σ (L2.upd H2 p (.dK [(kk, y)])) := F2.upd (s.up p hO) (by rw [s.P]; exact hP) (by rw [s.I]; exact hI)
    have ex : x = kV kk := keyOf_v ((r1.step s2 F1 hs).rdb pa) hk
    refine ⟨hp, [(kk, y)], by simp [ex], by simp, ?_⟩
    rw [em]
    refine post _ _ g2 e2 (.dict [(d1, d2)]) F3 ⟨s.al, s.P, s.I, fun b q => s.up b (.inl q), fun b q => ?_, fun b o eb nb ni => ?_, fun b pb ⟨x, y, z, eb⟩ => ?_⟩ ⟨p, rfl, np, s.up p hO, by rw [s.P]; exact hP, ?_⟩ wz
    · rcases s.dn b q with z | z
      · rcases z with z | z
        · exact .inl z
        · exact .inr (by rw [z]; exact np)
      · refine .inr ?_
        cases q2 : H b with
        | none => rfl
        | some o => rw [same_new np b o q2] at z; cases z
    · rw [upd_ne (ne_of_none eb np)]
      exact s.keep b o (same_new np b o eb) nb ni
    · obtain ⟨x', y', z', q⟩ := s.pool b pb ⟨x, y, z, same_new np b _ eb⟩
      exact ⟨x', y', z', by rw [upd_ne (ne_of_none eb np)]; exact q⟩
    · have hr : RepAll X.K (L2.upd H2 p (.dK [(kk, y)])) g2.own ([(kk, y)].map (·.2)) [d2] := by
        refine .cons (Rep.keep (S := g2.own) (fun b o nb eb => ?_) (fun b q => .inl q) r2) .nil
        rw [upd_ne fun z => nb (by rw [z]; exact .inl (s.up p hO))]; exact eb
      have := Obj1.dK (a := p) (upd_same (H := H2) (o := .dK [(kk, y)])) hr
      have ed : kD kk = d1 := by cases d1 <;> simp [keyOf] at hk <;> subst hk <;> rfl
      simpa [ed] using this
theorem get_rep {H : Hp} {S : Addr → Prop} {kvs : List (Key × V)} {ds : List D} {k : Key} {z : V} {dz : D} (al : RepAll X.K H S (kvs.map (·.2)) ds) (rz : Rep X.K H S z dz) : Rep X.K H S ((valV kvs k).getD z) ((lookD ((kvs.map fun p => kD p.1).zip ds) k).getD dz) := by
  have h2 := (look_rep k al).2
  cases q : lookD ((kvs.map fun p => kD p.1).zip ds) k with
  | none =>
    rw [q] at h2
    cases q2 : valV kvs k with
    | none => exact rz
    | some v => rw [q2] at h2; simp at h2
  | some d =>
    obtain ⟨v, hv, rv⟩ := (look_rep k al).1 d q
    rw [hv]; exact rv
theorem se_dget2 {apos : Pos} (hu : X.A.units + 1 < cLine) (ha : SE X κ M ka a wa) (hb : SE X κ M kb b wb) (hc : SE X κ M .fz c wc) (m : M2 X a "get" apos b c pos) (hs : stable ka M = true := by rfl) (hs2 : stable kb M = true := by rfl) (pa : ka.rdable = true := by rfl) (pb : kb.rdable = true := by rfl) : SE X κ M .fz (.Call (.Attribute a "get" apos) [b, c] [] pos) (wDget2 wa wb wc) :=
  SE.of (pe_dget2 hu ha hb hc m) fun σ H Q ⟨g, env, W, F, hw, post⟩ => ⟨g, env, _, F, hw, fun x H1 g1 e1 d1 F1 s1 r1 ⟨m, ed, hm, w1⟩ => by
    subst ed
    obtain ⟨p, kvs0, ds0, rfl, hp0, _, _⟩ := (r1.rdb pa).toDK hm
    exact ⟨p, rfl, .inl ⟨_, .inl hp0⟩, g1, e1, _, F1, w1, fun y H2 g2 e2 d2 F2 s2 r2 w2 => ⟨g2, e2, _, F2, w2, fun z H3 g3 e3 d3 F3 s3 r3 ⟨k, hk, wz⟩ => by
      have s12 := s1.tr s2 F F1
      obtain ⟨p', kvs, ds, e', hp, al, rfl⟩ := (((r1.step s2 F1 hs).step s3 F2 hs).rdb pa).toDK hm
      cases e'
      refine ⟨valV kvs k, ?_, post _ H3 g3 e3 _ F3 (s12.tr s3 F F2) (get_rep al r3) wz⟩
      rw [keyOf_v ((r2.step s3 F2 hs2).rdb pb) hk]; exact DGet.k hp⟩⟩⟩
end
end G7

set_option maxRecDepth 100000
namespace G7
open PySem PySem.Spec PyProof.Rows L2
end G7

set_option maxRecDepth 100000
set_option maxHeartbeats 4000000
namespace G7
open PySem PySem.Spec PyProof.Rows L2
theorem tuple_mul1 (l : Addr) (items : Array Value) (n : Nat) (sl : Array (Option Value)) (dd : Option Addr) (u : Tok) :
    Meets (Builtin.«tuple.__mul__» ⟨[.ref l, .int 1 u], []⟩) (fun _ R s => s.heap.get? l = some { cls := .type "tuple", dict := dd, data := .seq items n, slots := sl } ∧
      R (.ok (.ret (Value.ref l))) s) :=
  .of_wp fun prog w A R s h => by
    obtain ⟨hp, g, d, tk, os⟩ := s
    obtain ⟨hl, h⟩ := h
    have f1 := AutoSeq1.idx_int
    wp_walk using wpAny_loadPart' hl
    repeat (first
      | (refine wpAny_ite_false (decide_eq_false (by decide)) ?_; wp_walk using wpAny_loadPart' hl)
      | (refine wpAny_ite_true (decide_eq_true (by simp)) ?_; wp_walk using wpAny_loadPart' hl))
    exact ⟨_, rfl, h⟩
/-- t * k, as it is laid -/
def rRepM (K : PySem.W.Frag) : R2 := fun x y H Q => ∃ l k xs, x = .ref l ∧ y = .int k ∧ SqT K H l xs ∧ xs ≠ [] ∧ 1 ≤ k ∧ k ≤ 1000 ∧ xs.length ≤ 1000 ∧ (k = 1 → Q (.ref l) H) ∧ (2 ≤ k → ∀ p o, H p = none → MkT o (List.replicate k.toNat xs).flatten → Q (.ref p) (upd H p o))
section
variable {X : Cx}
theorem op_repM : OpR X (binaryOp .Mult) (rRepM X.K) := by
  intro pins s σ H x y v u Q I rx ry h
  obtain ⟨l, k, xs, rfl, rfl, hT, hne, h1, h2, hz, q1, q⟩ := h
  cases rx
  obtain ⟨t, rfl⟩ := ry
  obtain ⟨its, r, ⟨⟨cls, dd, data, sl⟩, ho, hc, n, hd⟩, hs⟩ := I.tuple hT
  simp only at hc hd
  subst hc hd
  have hle : its.length = xs.length := r.length.symm
  have hn : its ≠ [] := fun e => hne (by
    rw [e] at hle
    exact List.eq_nil_of_length_eq_zero hle.symm)
  have hi : its.toArray.isEmpty = false := by
    cases its with
    | nil => exact absurd rfl hn
    | cons a b => rfl
  by_cases k1 : k = 1
  · subst k1
    refine wpAny_binaryOp_repeat_ref (T := "tuple") (U := "int") (by decide) ⟨_, ho, rfl⟩ (fun s' => typeIs_int s' 1 t) noFill_tuple_mul F.fills_int_mul F.slot_int_rmul repeat_tuple F.slot_int_index.lookup
      (call_meets F.slot_int_rmul (typeIs_int s 1 t) F.entry_int_rmul (F.args_int_rmul_2 _ _) (int_rmul_tuple 1 t l its.toArray n dd sl)
        ⟨ho, rfl, ⟨_, ho, rfl⟩, call_meets F.slot_tuple_mul ⟨_, ho, rfl⟩ F.entry_tuple_mul (F.args_tuple_mul_2 _ _) (tuple_mul1 l its.toArray n sl dd t) ⟨ho, ?_⟩⟩)
    exact ⟨.ref l, H, I, rfl, q1 rfl⟩
  have k2 : 2 ≤ k := by omega
  have hsz0 : its.toArray.size = xs.length := by rw [List.size_toArray, hle]
  have hm : ((its.toArray.size : Nat) : Int) * k ≤ 1000000 := by
    rw [hsz0]
    have a1 : ((xs.length : Nat) : Int) * k ≤ 1000 * k := Int.mul_le_mul_of_nonneg_right (by omega) (by omega)
    omega
  have flen : (List.replicate k.toNat its).flatten.length ≤ sizeLine := by
    rw [PyProof.Rows.lm_len_rep_flat, hle, sizeLine_eq]
    have a1 : k.toNat * xs.length ≤ 1000 * 1000 := Nat.mul_le_mul (by omega) hz
    omega
  have c0 : (decide (k < -(2 ^ 63)) || decide (k ≥ 2 ^ 63)) = false := by
    rw [decide_eq_false (by omega), decide_eq_false (by omega)] <;> rfl
  have c1 : (its.toArray.isEmpty || k == 1) = false := by
    rw [hi, Bool.false_or]
    exact beq_eq_false_iff_ne.mpr (by omega)
  have c2 : (decide (k ≤ 0) || its.toArray.isEmpty) = false := by
    rw [hi, Bool.or_false]
    exact decide_eq_false (by omega)
  have c4 : Builtin.Tuple.tupleTooMany (((its.toArray.size : Nat) : Int) * k) = false := by
    unfold Builtin.Tuple.tupleTooMany
    rw [sizeLine_eq]
    exact decide_eq_false (by omega)
  refine wpAny_binaryOp_repeat_ref (T := "tuple") (U := "int") (by decide) ⟨_, ho, rfl⟩ (fun s' => typeIs_int s' k t) noFill_tuple_mul F.fills_int_mul F.slot_int_rmul repeat_tuple F.slot_int_index.lookup
    (call_meets F.slot_int_rmul (typeIs_int s k t) F.entry_int_rmul (F.args_int_rmul_2 _ _) (int_rmul_tuple k t l its.toArray n dd sl)
      ⟨ho, rfl, ⟨_, ho, rfl⟩, call_meets F.slot_tuple_mul ⟨_, ho, rfl⟩ F.entry_tuple_mul (F.args_tuple_mul_2 _ _) (tuple_mulW l its.toArray n dd sl k t c0 c1 c2 (by omega) c4 (by rw [size_rep, List.size_toArray]; exact flen)) ⟨ho, ?_⟩⟩)
  rw [size_rep]
  obtain ⟨o, m, J⟩ := mk_laid I (r.rep k.toNat) (by rw [PyProof.Rows.lm_len_rep_flat, sizeLine_eq]; have a1 : k.toNat * xs.length ≤ 1000 * 1000 := Nat.mul_le_mul (by omega) hz; omega) rfl
  exact ⟨.ref s.heap.objs.size, _, J, rfl, q k2 _ o (I.hok.fresh (Nat.le_refl _)) m⟩
end
def repTD : D → D → Option D
  | .tuple a, .int k => if a.length ≤ 1000 ∧ a ≠ [] ∧ 1 ≤ k ∧ k ≤ 1000 then some (.tuple (List.replicate k.toNat a).flatten) else none
  | _, _ => none
theorem od_repT {K : PySem.W.Frag} : OpD K (rRepM K) repTD .fz := by
  intro κ g env σ H x y dx dy dz Q F rx ry e h
  match dx, dy, e, rx, ry with
  | .tuple ds, .int m, e, rx, ry =>
    simp only [repTD] at e
    split at e
    · rename_i hl
      cases e
      have ta := rx.tupRep
      obtain ⟨a, xs, rfl, ra, za, la⟩ := rx.toTup
      rw [ry.toInt]
      obtain ⟨h1, h4, h2, h3⟩ := hl
      have hx : xs ≠ [] := fun e => by subst e; cases la; exact h4 rfl
      have hlx : xs.length ≤ 1000 := by rw [la.length]; exact h1
      refine ⟨a, m, xs, rfl, rfl, sqT_of ra, hx, h2, h3, hlx, fun e => ?_, fun k2 p o np mk => ok_tup F (la.rep _) (by rw [PyProof.Rows.lm_len_rep_flat, sizeLine_eq]; have a1 : m.toNat * xs.length ≤ 1000 * 1000 := Nat.mul_le_mul (by omega) hlx; omega) np mk h⟩
      subst e
      have e1 : (List.replicate (Int.toNat 1) ds).flatten = ds := by show (List.replicate 1 ds).flatten = ds; simp
      rw [e1] at h
      exact ok_same F ta h
    · cases e
end G7

set_option maxRecDepth 100000
namespace G7
open PySem PySem.Spec PyProof.Rows L2
end G7

set_option maxRecDepth 100000
namespace G7
open PySem PySem.Spec PyProof.Rows L2
def IsTupI (h : Heap) (v : Value) (ns : List Int) : Prop := ∃ a o its n, v = .ref a ∧ h.get? a = some o ∧ o.cls = .type "tuple" ∧ o.data = .seq its n ∧ IntsAre its.toList ns
theorem IsTupI.keeps {h h' : Heap} {v : Value} {ns : List Int} (p : IsTupI h v ns) (k : ∀ b o, h.get? b = some o → o.cls = .type "tuple" → h'.get? b = some o) : IsTupI h' v ns := by
  obtain ⟨a, o, its, n, e, ho, hc, hd, hi⟩ := p
  exact ⟨a, o, its, n, e, k a o ho hc, hc, hd, hi⟩
theorem tup_firsts {h : Heap} : ∀ {vs : List Value}, (∀ v ∈ vs, ∃ n ns, IsTupI h v (n :: ns)) → ∃ fs : List Value, PySem.W.KatTups h vs fs ∧ fs.length = vs.length ∧ ∀ f ∈ fs, ∃ x t, f = Value.int x t
  | [], _ => ⟨[], .nil, rfl, by simp⟩
  | v :: vs, hv => by
    obtain ⟨fs, h1, h2, h3⟩ := tup_firsts (vs := vs) fun u hu => hv u (by simp [hu])
    obtain ⟨n, ns, a, o, its, m, rfl, ho, hc, hd, hi⟩ := hv v (by simp)
    obtain ⟨t, r, e⟩ : ∃ t r, its.toList = .int n t :: r := by
      generalize its.toList = l at hi
      cases hi with
      | cons n t q => exact ⟨t, _, rfl⟩
    have e0 : its[0]? = some (.int n t) := by rw [← Array.getElem?_toList, e]; rfl
    exact ⟨.int n t :: fs, PySem.W.KatTups.cons ho hc hd e0 h1, by simp [h2], fun f hf => by
      rcases List.mem_cons.mp hf with rfl | hf
      · exact ⟨n, t, rfl⟩
      · exact h3 f hf⟩
section
variable {prog : Program} {w : World} {A : Around} {s : Shared}
theorem lex_go {b fin : Bool} {Q : Bool → Shared → Prop} : ∀ {xs ys : List Value} {ns ms : List Int} (i : Nat), IntsAre xs ns → IntsAre ys ms → (∀ ns' ms' : List Int, (ns' = [] ∨ ms' = []) → ns.length + ms'.length = ms.length + ns'.length → HT.lexLt ns' ms' = fin) → Q (HT.lexLt ns ms) s → PySem.W.KatLex prog w A b fin Q (xs.zip ys) i s
  | [], ys, [], ms, i, .nil, hy, hf, q => by
    rw [List.zip_nil_left]
    refine PySem.W.kat_nil ?_
    rw [← hf [] ms (.inl rfl) (by simp)]; exact q
  | _ :: _, [], n :: ns, [], i, hx, .nil, hf, q => by
    rw [List.zip_nil_right]
    refine PySem.W.kat_nil ?_
    rw [← hf (n :: ns) [] (.inr rfl) (by simp)]; exact q
  | _, _, n :: ns, m :: ms, i, .cons _ t hx, .cons _ u hy, hf, q => by
    rw [List.zip_cons_cons]
    refine PySem.W.kat_cons (SeqAt.EqAt.int_int n t m u prog w _ _ ?_)
    rw [HT.lexLt_cons] at q
    refine PySem.W.kat_go (fun e1 => ?_) (fun e1 => ?_)
    · have ex : n = m := by simpa using e1
      rw [if_pos ex] at q
      exact PySem.W.kat_yes (lex_go (i + 1) hx hy (fun a b h1 h2 => hf a b h1 (by simp only [List.length_cons]; omega)) q)
    · have ex : ¬ n = m := by simpa using e1
      rw [if_neg ex] at q
      exact PySem.W.kat_no (TS.oneLt_ints _ q)
theorem lex_short {ns ms : List Int} (h : ns = [] ∨ ms = []) : HT.lexLt ns ms = decide (ns.length < ms.length) := by
  rcases h with rfl | rfl
  · cases ms with
    | nil => rfl
    | cons m ms => rw [HT.lexLt_nil_cons]; simp
  · cases ns with
    | nil => rfl
    | cons n ns => rw [HT.lexLt_cons_nil]; simp
theorem intsAre_len {xs : List Value} {ns : List Int} (h : IntsAre xs ns) : ns.length = xs.length := by
  induction h with
  | nil => rfl
  | cons _ _ _ ih => simp [ih]
theorem tup_cmp {vs : List Value} {k : Value → List Int} (hp : ∀ v ∈ vs, IsTupI s.heap v (k v)) : SrtO.Cmp prog w A s (tuples' true) (fun p => p.1 ∈ vs) (SrtO.lt2 fun v u => HT.lexLt (k v) (k u)) := by
  intro p q hm hm'
  have h1 := hp _ hm
  have h2 := hp _ hm'
  show wpAny (model prog w) A (keyLt' (tuples' true) p.1 q.1) (fun r s' => s' = s ∧ r = HT.lexLt (k p.1) (k q.1)) (fun _ _ => False) s
  generalize k p.1 = ns at h1 ⊢
  generalize k q.1 = ms at h2 ⊢
  obtain ⟨a, o, its, n, e, ho, hc, hd, hi⟩ := h1
  obtain ⟨a', o', its', n', e', ho', hc', hd', hi'⟩ := h2
  rw [e, e']
  refine PySem.W.kat_lt ho hd ho' hd' ?_
  have l1 : ns.length = its.size := (intsAre_len hi).trans Array.length_toList
  have l2 : ms.length = its'.size := (intsAre_len hi').trans Array.length_toList
  refine lex_go 0 hi hi' (fun ns' ms' h3 h4 => ?_) ⟨rfl, rfl⟩
  rw [lex_short h3]
  exact decide_eq_decide.mpr (by omega)
theorem tups_sortableO {a : Addr} {vs : List Value} {k : Value → List Int} (h0 : 0 < vs.length) (hp : ∀ v ∈ vs, IsTupI s.heap v (k v)) (hn : ∀ v ∈ vs, k v ≠ []) (ha : ∀ o, s.heap.get? a = some o → o.cls ≠ .type "tuple") : SrtO.SortableO prog w A s a vs fun v u => HT.lexLt (k v) (k u) := by
  intro h' keep
  have hp' : ∀ v ∈ vs, IsTupI h' v (k v) := fun v hm => (hp v hm).keeps fun b o e c => keep b o (fun z => by subst z; exact ha o e c) e
  obtain ⟨fs, h1, h2, h3⟩ := tup_firsts fun v hm => by
    cases e : k v with
    | nil => exact absurd e (hn v hm)
    | cons n ns => exact ⟨n, ns, by rw [← e]; exact hp' v hm⟩
  refine ⟨tuples' true, fun Q E hq => ?_, tup_cmp hp'⟩
  refine PySem.W.kat_kind (T := .type "int") h1 (by omega) (fun f hm => ?_) (by rfl) ?_
  · obtain ⟨x, t, rfl⟩ := h3 f hm
    exact PySem.W.Looks.now
  · have e : (Value.type "int" != Value.type "tuple") = true := by first | decide +kernel | rfl | decide
    rw [e]
    exact hq
theorem sorted_tupsO {l : Addr} {vs : List Value} {k : Value → List Int} {Q : Value → Shared → Prop} (hl : s.heap.IsList l vs.toArray) (hz : vs.length ≤ sizeLine) (hp : ∀ v ∈ vs, IsTupI s.heap v (k v)) (hn : vs.length < 2 ∨ ∀ v ∈ vs, k v ≠ [])
    (h : ∀ (h' : Heap) (d : Addr) (out : List Value), SrtO.Srtd (fun v u => HT.lexLt (k v) (k u)) out → SrtO.Stb (fun v u => HT.lexLt (k v) (k u)) out vs → (∀ b o, s.heap.get? b = some o → h'.get? b = some o) → s.heap.objs.size ≤ d → (∃ n, h'.get? d = some (seqObj "list" out.toArray n)) → Q (.ref d) { s with heap := h' }) {E : Value → Shared → Prop} :
    wpAny (model prog w) A (call (.builtin "sorted") [.ref l]) Q E s := by
  refine SrtO.sorted_ord (NtL.swo_lexL k) hl hz (fun h2 h₁ a ha kk => ?_) fun out hs hb => ?_
  · refine tups_sortableO (s := { s with heap := h₁ }) (by omega) (fun v hm => (hp v hm).keeps fun b o e _ => (kk b o e).2) (hn.resolve_left (by omega)) fun o e => ?_
    have e' : some o = some (seqObj "list" vs.toArray 0) := e.symm.trans ha
    cases e'
    intro c
    exact absurd (Value.type.inj c) (by decide)
  · exact h _ _ out hs hb (fun b o e => sortedAll_old e) (Nat.le_succ _) (sortedAll_at s.heap vs out.toArray)
end
def ltL {α : Type} (k : α → List Int) (v u : α) : Bool := HT.lexLt (k v) (k u)
def rSortedTs (K : PySem.W.Frag) : List V → Hp → VK → Prop := fun vs H Q => ∃ (a : Addr) (xs : List V), vs = [V.ref a] ∧ SqL K H a xs ∧ (∀ x ∈ xs, ∃ t ns, x = V.ref t ∧ SqT K H t (List.map V.int ns)) ∧ (xs.length < 2 ∨ ∀ x ∈ xs, ∃ t n ns, x = V.ref t ∧ SqT K H t (List.map V.int (n :: ns))) ∧
  ∀ k : V → List Int, (∀ x ∈ xs, ∀ t ns, x = V.ref t → SqT K H t (List.map V.int ns) → k x = ns) → ∀ ys p, SrtO.Srtd (ltL k) ys → SrtO.Stb (ltL k) ys xs → H p = none → Q (.ref p) (upd H p (.lst ys))
theorem intV_inj : ∀ {ns ms : List Int}, ns.map V.int = ms.map V.int → ns = ms
  | [], [], _ => rfl
  | [], _ :: _, h => by simp at h
  | _ :: _, [], h => by simp at h
  | n :: ns, m :: ms, h => by
    simp only [List.map_cons, List.cons.injEq, V.int.injEq] at h
    rw [h.1, intV_inj h.2]
theorem ints_vals : ∀ {ns : List Int} {its : List Value}, Vals (ns.map V.int) its → IntsAre its ns
  | [], _, r => by
    rw [List.map_nil] at r
    cases r; exact .nil
  | n :: ns, _, r => by
    rw [List.map_cons] at r
    cases r with
    | cons h q =>
      obtain ⟨t, rfl⟩ := h
      exact .cons n t (ints_vals q)
section
variable {X : Cx}
open Classical in
noncomputable def keyL (K : PySem.W.Frag) (H : Hp) (v : V) : List Int := if h : ∃ ns t, v = V.ref t ∧ SqT K H t (List.map V.int ns) then Classical.choose h else []
theorem cr_sortedTs : CallR X (.builtin "sorted") (rSortedTs X.K) := by
  intro pins s σ H vs us Q I r h
  obtain ⟨a, xs, rfl, hs, hx, hne, q⟩ := h
  have hk : ∀ v t ns, v = V.ref t → SqT X.K H t (List.map V.int ns) → keyL X.K H v = ns := by
    intro v t p e ht
    have h : ∃ p t, v = V.ref t ∧ SqT X.K H t (List.map V.int p) := ⟨p, t, e, ht⟩
    unfold keyL
    rw [dif_pos h]
    obtain ⟨t2, e2, h2⟩ := Classical.choose_spec h
    have e3 := V.ref.inj (e.symm.trans e2)
    rw [← e3] at h2
    exact intV_inj (I.tuple_inj h2 ht)
  have q := q (keyL X.K H) fun x _ t p e ht => hk x t p e ht
  generalize keyL X.K H = k at hk q
  obtain ⟨its, rv, hl, hz⟩ := I.list hs
  obtain ⟨u, rfl, ru⟩ := vals1 r
  obtain rfl : u = Value.ref a := ru
  obtain ⟨e1, e2⟩ := refs_back rv fun x m => by
    obtain ⟨t, p, e, _⟩ := hx x m
    exact ⟨t, e⟩
  refine sorted_tupsO (k := fun u => k (backV u)) hl.isList (by rw [← rv.length]; exact hz) (fun v hv => ?_) ?_ fun h' d out h1 h2 kp hd hn => ?_
  · obtain ⟨t, rfl⟩ := e2 v hv
    have hm : V.ref t ∈ xs := by rw [e1]; exact List.mem_map.mpr ⟨_, hv, rfl⟩
    obtain ⟨t', p, e, ht⟩ := hx _ hm
    cases e
    have hkt : k (backV (Value.ref t)) = p := hk _ t p rfl ht
    obtain ⟨its2, r2, ⟨o, ho, hc, n, hd⟩, _⟩ := I.tuple ht
    rw [hkt]
    exact ⟨t, o, _, n, rfl, ho, hc, hd, ints_vals r2⟩
  · rcases hne with hne | hne
    · left; rw [← rv.length]; exact hne
    · right
      intro v hv c
      obtain ⟨t, rfl⟩ := e2 v hv
      have hm : V.ref t ∈ xs := by rw [e1]; exact List.mem_map.mpr ⟨_, hv, rfl⟩
      obtain ⟨t', n, ns, e, ht⟩ := hne _ hm
      cases e
      have hkt : k (backV (Value.ref t)) = n :: ns := hk _ t _ rfl ht
      have c' : k (backV (Value.ref t)) = [] := c
      rw [hkt] at c'
      cases c'
  · have h3 : ∀ u ∈ out, ∃ a, u = Value.ref a := fun u hu => e2 u (h2.perm.mem_iff.mp hu)
    obtain ⟨n, hn⟩ := hn
    have hb : SrtO.Stb (ltL k) (out.map backV) xs := by
      rw [e1]
      exact SrtO.Stb.map (NtL.swo_lexL k) backV h2
    refine ⟨.ref d, upd H d (.lst (out.map backV)), I.laid (t' := s.toks) kp hd ⟨?_, out, n, vals_back h3, hn⟩, rfl, q _ d (SrtO.srtd_map h1) hb (I.hok.fresh hd)⟩
    rw [hb.len]
    exact hz
end
def leT (a b : List Int) : Prop := HT.lexLt b a = false
instance (a b : List Int) : Decidable (leT a b) := by unfold leT; exact inferInstance
def insT (x : List Int) : List (List Int) → List (List Int)
  | [] => [x]
  | y :: l => if leT x y then x :: y :: l else y :: insT x l
def tsort : List (List Int) → List (List Int)
  | [] => []
  | x :: l => insT x (tsort l)
theorem insT_perm (x : List Int) : ∀ l : List (List Int), (insT x l).Perm (x :: l)
  | [] => List.Perm.refl _
  | y :: l => by
    unfold insT
    split
    · exact List.Perm.refl _
    · exact ((insT_perm x l).cons y).trans (List.Perm.swap x y l)
theorem tsort_perm : ∀ l : List (List Int), (tsort l).Perm l
  | [] => List.Perm.refl _
  | x :: l => (insT_perm x _).trans ((tsort_perm l).cons x)
theorem leT_total {p q : List Int} (h : ¬ leT p q) : leT q p := by
  unfold leT at *
  exact NtL.lex_asym _ _ (by simpa using h)
theorem leT_trans {p q r : List Int} (h : leT p q) (h2 : leT q r) : leT p r := NtL.lex_tr _ _ _ h h2
theorem leT_anti : ∀ {p q : List Int}, leT p q → leT q p → p = q
  | [], [], _, _ => rfl
  | [], q :: qs, h, h2 => by unfold leT at h2; rw [HT.lexLt_nil_cons] at h2; cases h2
  | p :: ps, [], h, h2 => by unfold leT at h; rw [HT.lexLt_nil_cons] at h; cases h
  | p :: ps, q :: qs, h, h2 => by
    unfold leT at h h2
    rw [HT.lexLt_cons] at h h2
    by_cases e : p = q
    · subst e
      rw [if_pos rfl] at h h2
      rw [leT_anti (p := ps) (q := qs) h h2]
    · rw [if_neg (Ne.symm e)] at h
      rw [if_neg e] at h2
      have a := of_decide_eq_false h
      have b := of_decide_eq_false h2
      exact absurd (by omega) e
theorem insT_sorted (x : List Int) : ∀ l : List (List Int), l.Pairwise leT → (insT x l).Pairwise leT
  | [], _ => List.pairwise_singleton _ _
  | y :: l, h => by
    have h' := List.pairwise_cons.mp h
    unfold insT
    split
    · rename_i hxy
      refine List.pairwise_cons.mpr ⟨fun z hz => ?_, h⟩
      rcases List.mem_cons.mp hz with e | hz
      · subst e; exact hxy
      · exact leT_trans hxy (h'.1 z hz)
    · rename_i hxy
      refine List.pairwise_cons.mpr ⟨fun z hz => ?_, insT_sorted x l h'.2⟩
      rcases List.mem_cons.mp ((insT_perm x l).mem_iff.mp hz) with e | hz
      · subst e; exact leT_total hxy
      · exact h'.1 z hz
theorem tsort_sorted : ∀ l : List (List Int), (tsort l).Pairwise leT
  | [] => .nil
  | x :: l => insT_sorted x _ (tsort_sorted l)
theorem tsort_one : ∀ {l m : List (List Int)}, l.Perm m → l.Pairwise leT → m.Pairwise leT → l = m
  | [], m, p, _, _ => (p.symm.eq_nil).symm
  | x :: l, [], p, _, _ => absurd p.eq_nil (by simp)
  | x :: l, y :: m, p, hl, hm => by
    have hl' := List.pairwise_cons.mp hl
    have hm' := List.pairwise_cons.mp hm
    have e : x = y := by
      have h1 : x ∈ y :: m := p.mem_iff.mp (by simp)
      have h2 : y ∈ x :: l := p.mem_iff.mpr (by simp)
      rcases List.mem_cons.mp h1 with e | h1
      · exact e
      · rcases List.mem_cons.mp h2 with e | h2
        · exact e.symm
        · exact leT_anti (hl'.1 y h2) (hm'.1 x h1)
    subst e
    rw [tsort_one (p.cons_inv) hl'.2 hm'.2]
def tupsD : List D → Option (List (List Int))
  | [] => some []
  | .tuple xs :: r => (intsD xs).bind fun ns => (tupsD r).map (ns :: ·)
  | _ => none
/-- what may be sorted: none or one, or none of them empty -/
def tupsOk (L : List (List Int)) : Bool := decide (L.length < 2) || L.all fun l => !l.isEmpty
def sortedTsD : List D → Option D
  | [.list xs] => (tupsD xs).bind fun L => if tupsOk L = true then some (.list ((tsort L).map fun l => .tuple (l.map .int))) else none
  | _ => none
theorem intsD_back : ∀ {xs : List D} {ns : List Int}, intsD xs = some ns → xs = ns.map .int
  | [], _, h => by simp [intsD] at h; subst h; rfl
  | x :: xs, ns, h => by
    cases x with
    | int i =>
      simp only [intsD, Option.map_eq_some_iff] at h
      obtain ⟨js, hj, rfl⟩ := h
      rw [intsD_back hj]; rfl
    | _ => simp [intsD] at h
theorem tupsD_back : ∀ {xs : List D} {L : List (List Int)}, tupsD xs = some L → xs = L.map fun l => .tuple (l.map .int)
  | [], _, h => by simp [tupsD] at h; subst h; rfl
  | x :: xs, L, h => by
    cases x with
    | tuple ys =>
      simp only [tupsD, Option.bind_eq_some_iff, Option.map_eq_some_iff] at h
      obtain ⟨ns, hn, M, hM, rfl⟩ := h
      rw [tupsD_back hM, intsD_back hn]; rfl
    | _ => simp [tupsD] at h
section
variable {K : PySem.W.Frag} {H : Hp} {S : Addr → Prop}
theorem rep_intsL : ∀ {vs : List V} {ns : List Int}, RepAll K H S vs (ns.map .int) → vs = ns.map V.int
  | [], [], _ => rfl
  | [], _ :: _, h => by cases h
  | _ :: _, [], h => by cases h
  | v :: vs, n :: ns, h => by
    cases h with
    | cons r t => rw [r.toInt, rep_intsL t]; rfl
theorem tups_keys {k : V → List Int} : ∀ {xs : List V} {L : List (List Int)}, RepAll K H S xs (L.map fun l => .tuple (l.map .int)) → (∀ x ∈ xs, ∀ t ns, x = V.ref t → SqT K H t (List.map V.int ns) → k x = ns) → xs.map k = L ∧ ∀ x ∈ xs, Rep K H S x (.tuple ((k x).map .int))
  | [], [], _, _ => ⟨rfl, by simp⟩
  | [], _ :: _, h, _ => by cases h
  | _ :: _, [], h, _ => by cases h
  | x :: xs, p :: ps, h, hk => by
    cases h with
    | cons r t =>
      obtain ⟨h1, h2⟩ := tups_keys t fun y hy => hk y (by simp [hy])
      obtain ⟨a, ys, rfl, ra, _, al⟩ := Rep.toTup r
      have e := rep_intsL al
      subst e
      have hx := hk _ (by simp) a p rfl (sqT_of ra)
      refine ⟨by simp [hx, h1], fun y hy => ?_⟩
      rcases List.mem_cons.mp hy with e | hy
      · subst e; rw [hx]; exact r
      · exact h2 y hy
theorem tups_refs : ∀ {xs : List V} {L : List (List Int)}, RepAll K H S xs (L.map fun l => .tuple (l.map .int)) → ∀ x ∈ xs, ∃ t ns, x = V.ref t ∧ SqT K H t (List.map V.int ns) ∧ ns ∈ L
  | [], [], _ => by simp
  | [], _ :: _, h => by cases h
  | _ :: _, [], h => by cases h
  | x :: xs, p :: ps, h => by
    cases h with
    | cons r t =>
      obtain ⟨a, ys, rfl, ra, _, al⟩ := Rep.toTup r
      have e := rep_intsL al
      subst e
      intro y hy
      rcases List.mem_cons.mp hy with e | hy
      · subst e; exact ⟨a, p, rfl, sqT_of ra, by simp⟩
      · obtain ⟨t', ns, e1, e2, e3⟩ := tups_refs t y hy
        exact ⟨t', ns, e1, e2, by simp [e3]⟩
end
theorem repAll_ofT {K : PySem.W.Frag} {H : Hp} {S : Addr → Prop} {k : V → List Int} : ∀ {xs : List V}, (∀ x ∈ xs, Rep K H S x (.tuple ((k x).map .int))) → RepAll K H S xs ((xs.map k).map fun l => .tuple (l.map .int))
  | [], _ => .nil
  | x :: xs, h => .cons (h x (by simp)) (repAll_ofT fun y hy => h y (by simp [hy]))
theorem bd_sortedTs {K : PySem.W.Frag} : BlD K (rSortedTs K) sortedTsD .nw := by
  intro κ g env σ H vs ds dz Q F r e h
  match ds, e with
  | [.list xs], e =>
    simp only [sortedTsD, Option.bind_eq_some_iff] at e
    obtain ⟨L, hL, e⟩ := e
    split at e
    · rename_i hok
      cases e
      obtain ⟨v, rfl, rx⟩ := rda1 r
      obtain ⟨a, ys, rfl, ra, za, la⟩ := rx.toLst
      have := tupsD_back hL
      subst this
      have hrefs := tups_refs la
      refine ⟨a, ys, rfl, .inl ra, fun x hx => ?_, ?_, fun k hk zs p hs hb np => ?_⟩
      · obtain ⟨t, ns, e1, e2, _⟩ := hrefs x hx
        exact ⟨t, ns, e1, e2⟩
      · unfold tupsOk at hok
        rw [Bool.or_eq_true, decide_eq_true_eq, List.all_eq_true] at hok
        rcases hok with c | c
        · left
          rw [la.length, List.length_map]; exact c
        · right
          intro x hx
          obtain ⟨t, ns, e1, e2, e3⟩ := hrefs x hx
          cases ns with
          | nil => exact absurd (c _ e3) (by simp)
          | cons n ns => exact ⟨t, n, ns, e1, e2⟩
      · obtain ⟨h1, h2⟩ := tups_keys la hk
        have rz : RepAll K H g.own zs ((zs.map k).map fun l => .tuple (l.map .int)) := repAll_ofT fun x hx => h2 x (hb.perm.mem_iff.mp hx)
        have e : zs.map k = tsort L := by
          refine tsort_one ?_ ?_ (tsort_sorted L)
          · refine (hb.perm.map k).trans ?_
            rw [h1]; exact (tsort_perm L).symm
          · rw [List.pairwise_map]
            exact hs.imp fun {x y} hxy => hxy
        rw [e] at rz
        exact ok_lstN F rz (by rw [hb.len]; exact za) np h
    · cases e
end G7

set_option maxRecDepth 100000
namespace G7
open PySem PySem.Spec PyProof.Rows L2
abbrev setO0 (w : World) : Obj := { cls := .type "set", dict := none, data := .set #[] 0 (.fresh 0 0 (!w.params.followText "set-order")) }
end G7

set_option maxRecDepth 100000
namespace G7
open PySem PySem.Spec PyProof.Rows L2
abbrev KT := List (Addr × List Int)
/-- midway: i of them put in, what was there is there -/
structure MidT (P : Program) (w : World) (hb : Heap) (S : Addr) (ks : KT) (i : Nat) (s : Shared) : Prop where
  kp : ∀ b o, hb.get? b = some o → s.heap.get? b = some o
  st : ∃ L es ep t, SetTR P w s.heap S L es ep t ∧ Got ks i L
section
variable {P : Program} {w : World} {A : Around} {E : Value → Shared → Prop} {s : Shared}
theorem MidT.on {hb : Heap} {S : Addr} {ks : KT} {i : Nat} {s s' : Shared} (m : MidT P w hb S ks i s) (hk : ∀ p ∈ ks, IsT P w hb p.2 p.1) (k1 : ∀ b o, hb.get? b = some o → s.heap.get? b = some o → s'.heap.get? b = some o) (k2 : ∀ o, s.heap.get? S = some o → s'.heap.get? S = some o) : MidT P w hb S ks i s' := by
  have kp : ∀ b o, hb.get? b = some o → s'.heap.get? b = some o := fun b o e => k1 b o e (m.kp b o e)
  obtain ⟨L, es, ep, t, R, g⟩ := m.st
  exact ⟨kp, L, es, ep, t, R.keep k2 fun p hp => isT_keep (hk p (List.mem_of_mem_take (g.sub p hp))) kp, g⟩
end
def uniqT (L : List (List Int)) : List (List Int) := L.foldl (fun acc x => if x ∈ acc then acc else acc ++ [x]) []
theorem uniq_go : ∀ (L acc : List (List Int)), acc.Nodup → (L.foldl (fun acc x => if x ∈ acc then acc else acc ++ [x]) acc).Nodup ∧ ∀ k, k ∈ L.foldl (fun acc x => if x ∈ acc then acc else acc ++ [x]) acc ↔ k ∈ acc ∨ k ∈ L
  | [], acc, h => ⟨h, fun k => by simp⟩
  | x :: L, acc, h => by
    rw [List.foldl_cons]
    by_cases c : x ∈ acc
    · rw [if_pos c]
      obtain ⟨h1, h2⟩ := uniq_go L acc h
      refine ⟨h1, fun k => ?_⟩
      rw [h2, List.mem_cons]
      constructor
      · rintro (q | q)
        · exact .inl q
        · exact .inr (.inr q)
      · rintro (q | rfl | q)
        · exact .inl q
        · exact .inl c
        · exact .inr q
    · rw [if_neg c]
      obtain ⟨h1, h2⟩ := uniq_go L (acc ++ [x]) (List.nodup_append.mpr ⟨h, by simp, fun a ha b hb e => c (by rw [← List.mem_singleton.mp hb, ← e]; exact ha)⟩)
      refine ⟨h1, fun k => ?_⟩
      rw [h2, List.mem_append, List.mem_singleton, List.mem_cons, or_assoc]
theorem uniq_nd (L : List (List Int)) : (uniqT L).Nodup := (uniq_go L [] List.nodup_nil).1
theorem mem_uniq {L : List (List Int)} {k : List Int} : k ∈ uniqT L ↔ k ∈ L := by unfold uniqT; rw [(uniq_go L [] List.nodup_nil).2]; simp
theorem uniq_perm {L M : List (List Int)} (nd : M.Nodup) (h : ∀ k, k ∈ M ↔ k ∈ L) : M.Perm (uniqT L) := (List.perm_ext_iff_of_nodup nd (uniq_nd L)).mpr fun k => by rw [h, mem_uniq]
theorem sub_len {α : Type} [DecidableEq α] {l m : List α} (h : l.Nodup) (s : ∀ x ∈ l, x ∈ m) : l.length ≤ m.length := by
  induction l generalizing m with
  | nil => simp
  | cons x l ih =>
    have h' := List.nodup_cons.mp h
    have hx : x ∈ m := s x (by simp)
    have := ih (m := m.erase x) h'.2 fun y hy => (List.mem_erase_of_ne fun e => h'.1 (by rw [← e]; exact hy)).mpr (s y (by simp [hy]))
    rw [List.length_erase_of_mem hx] at this
    have := List.length_pos_of_mem hx
    simp; omega
/-- the places and keys of a told list of tuples -/
theorem keys_of {K : PySem.W.Frag} {H : Hp} {S : Addr → Prop} : ∀ {xs : List V} {L : List (List Int)}, RepAll K H S xs (L.map fun l => .tuple (l.map .int)) →
    ∃ ks : KT, xs = ks.map (fun p => V.ref p.1) ∧ ks.map (·.2) = L ∧ ∀ p ∈ ks, SqT K H p.1 (p.2.map V.int) ∧ Rep K H S (.ref p.1) (.tuple (p.2.map .int))
  | [], [], _ => ⟨[], rfl, rfl, by simp⟩
  | [], _ :: _, h => by cases h
  | _ :: _, [], h => by cases h
  | x :: xs, l :: L, h => by
    cases h with
    | cons r t =>
      obtain ⟨ks, e1, e2, e3⟩ := keys_of t
      obtain ⟨a, ys, rfl, ra, _, al⟩ := Rep.toTup r
      have e := rep_intsL al
      subst e
      refine ⟨(a, l) :: ks, by rw [List.map_cons, ← e1], by rw [List.map_cons, e2], fun p hp => ?_⟩
      rcases List.mem_cons.mp hp with rfl | hp
      · exact ⟨sqT_of ra, r⟩
      · exact e3 p hp
def rLenT : KT → Hp → VK → Prop := fun ks H Q => Q (.int ((uniqT (ks.map (·.2))).length : Int)) H
end G7

set_option maxRecDepth 100000
namespace G7
open PySem PySem.Spec PyProof.Rows L2
def Good (m : Nat) : Prop := MaskOk m ∨ m = 511
theorem good_odd {m : Nat} (g : Good m) : m % 2 = 1 := g.elim mask_odd fun e => by rw [e]
theorem good_511 {m : Nat} (g : Good m) : m ≤ 511 := by
  rcases g with (e | e | e) | e <;> omega
/-- the orbit of i -> 5 i + 1 in a table of 512 -/
def orbF : Nat → Nat → List Nat
  | 0, _ => []
  | n + 1, i => i :: orbF n ((i * 5 + 1) % 512)
theorem lcgI_fr (m i : Nat) : ∀ k, lcgI m i (k + 1) = lcgI m ((i * 5 + 1) % (m + 1)) k
  | 0 => rfl
  | k + 1 => by
    show (lcgI m i (k + 1) * 5 + 1) % (m + 1) = (lcgI m ((i * 5 + 1) % (m + 1)) k * 5 + 1) % (m + 1)
    rw [lcgI_fr m i k]
theorem orb_at : ∀ (n k i : Nat), k < n → (orbF n i)[k]? = some (lcgI 511 i k)
  | 0, _, _, h => by omega
  | _ + 1, 0, _, _ => rfl
  | n + 1, k + 1, i, h => by
    show (orbF n ((i * 5 + 1) % 512))[k]? = _
    rw [orb_at n k _ (by omega), lcgI_fr]
theorem orb_len : ∀ n i : Nat, (orbF n i).length = n
  | 0, _ => rfl
  | n + 1, i => by rw [orbF, List.length_cons, orb_len n]
theorem orb_all : ((List.range 512).all fun j => (orbF 512 0).contains j) = true := by decide +kernel
theorem orb_round : lcgI 511 0 512 = 0 := by decide +kernel
theorem lcgI_plus (m i a : Nat) : ∀ k, lcgI m (lcgI m i a) k = lcgI m i (a + k)
  | 0 => rfl
  | k + 1 => by
    show (lcgI m (lcgI m i a) k * 5 + 1) % (m + 1) = (lcgI m i (a + k) * 5 + 1) % (m + 1)
    rw [lcgI_plus m i a k]
theorem orb_has {j : Nat} (hj : j ≤ 511) : ∃ b, b ≤ 511 ∧ lcgI 511 0 b = j := by
  have h1 : (orbF 512 0).contains j = true := List.all_eq_true.mp orb_all j (List.mem_range.mpr (by omega))
  obtain ⟨b, hb, e⟩ := List.getElem_of_mem (List.contains_iff_mem.mp h1)
  have h2 := orb_at 512 b 0 (by rw [orb_len] at hb; exact hb)
  rw [List.getElem?_eq_getElem hb, e] at h2
  rw [orb_len] at hb
  exact ⟨b, by omega, (Option.some.inj h2).symm⟩
theorem orb_meets {i j : Nat} (hi : i ≤ 511) (hj : j ≤ 511) : ∃ k, k ≤ 511 ∧ lcgI 511 i k = j := by
  obtain ⟨a, ha, rfl⟩ := orb_has hi
  obtain ⟨b, hb, rfl⟩ := orb_has hj
  by_cases c : a ≤ b
  · exact ⟨b - a, by omega, by rw [lcgI_plus, show a + (b - a) = b by omega]⟩
  · refine ⟨512 + b - a, by omega, ?_⟩
    rw [lcgI_plus, show a + (512 + b - a) = 512 + b by omega, ← lcgI_plus, orb_round]
theorem good_runs {m : Nat} (g : Good m) (x : Int) {j : Nat} (hj : j ≤ m) : ∃ n, n ≤ m + 12 ∧ runI m (SetTable.bits x) n = j := by
  rcases g with g | e
  · exact run_meets g x hj
  · subst e
    obtain ⟨k, hk, e⟩ := orb_meets (runI_le 511 (SetTable.bits x) 12) hj
    exact ⟨12 + k, by omega, (runI_tail (bits_lt x) k).trans e⟩
theorem good_seen {m : Nat} (g : Good m) (x : Int) {j : Nat} (hj : j ≤ m) : ∃ k, k < 10 * SetTable.turns m ∧ way m x k = j := by
  obtain ⟨n, hn, e⟩ := good_runs g x hj
  obtain ⟨k, hk, e2⟩ := run_nth m (SetTable.bits x) n
  have h1 : SetTable.turns m = m + 15 := rfl
  exact ⟨k, by omega, (congrArg SetTable.Probe.j e2).trans e⟩
theorem way_in {m : Nat} (x : Int) (k : Nat) : way m x k ≤ m := by
  have r := runEnd_bd (m := m) (i := SetTable.bits x % (m + 1)) (Nat.le_of_lt_succ (Nat.mod_lt _ (Nat.succ_pos _)))
  refine Nat.le_trans (Nat.le_add_right _ _) (nth_in (m := m) k (runAt m (SetTable.bits x % (m + 1)) (SetTable.bits x)) ?_)
  have h1 : (runAt m (SetTable.bits x % (m + 1)) (SetTable.bits x)).j = SetTable.bits x % (m + 1) := rfl
  have h2 : (runAt m (SetTable.bits x % (m + 1)) (SetTable.bits x)).more = SetTable.runEnd m (SetTable.bits x % (m + 1)) - SetTable.bits x % (m + 1) := rfl
  omega
/-- a table that finds its hashes again -/
structure Tab (t : SetTable) (hs : List Int) : Prop where
  up : Ris t.place.toList
  dm : t.dummies = #[]
  eq : t.place.toList.length = hs.length
  gd : Good t.mask
  le : ∀ y ∈ t.place.toList, y ≤ t.mask
  fd : ∀ (n : Nat) (x : Int) (y : Nat), hs[n]? = some x → t.place.toList[n]? = some y → ∃ k, way t.mask x k = y ∧ ∀ c, c < k → way t.mask x c ∈ t.place.toList
section
variable {t : SetTable} {hs : List Int}
theorem Tab.gap (T : Tab t hs) (hl : hs.length ≤ t.mask) (x : Int) : ∃ K, K < 10 * SetTable.turns t.mask ∧ way t.mask x K ∉ t.place.toList ∧ ∀ c, c < K → way t.mask x c ∈ t.place.toList := by
  obtain ⟨j, hj, out⟩ := st_missing t.place.toList (t.mask + 1) (by have := T.eq; omega)
  obtain ⟨k, hk, rfl⟩ := good_seen T.gd x (Nat.le_of_lt_succ hj)
  obtain ⟨K, h1, h2, h3⟩ := st_least (p := fun c => way t.mask x c ∉ t.place.toList) k out
  exact ⟨K, by omega, h2, fun c hc => Classical.not_not.mp (h3 c hc)⟩
theorem Tab.ahead (T : Tab t hs) {x : Int} {K n : Nat} (out : way t.mask x K ∉ t.place.toList) (hn : hs[n]? = some x) : ∃ c, c < K ∧ t.place.toList[n]? = some (way t.mask x c) := by
  have hl : n < t.place.toList.length := by rw [T.eq]; exact (List.getElem?_eq_some_iff.mp hn).1
  obtain ⟨c, e, ins⟩ := T.fd n x _ hn (List.getElem?_eq_getElem hl)
  refine ⟨c, ?_, by rw [e]; exact List.getElem?_eq_getElem hl⟩
  apply Classical.byContradiction
  intro z
  by_cases k : c = K
  · rw [k] at e
    exact out (by rw [e]; exact List.getElem_mem hl)
  · exact out (ins K (by omega))
theorem Tab.put (T : Tab t hs) {x : Int} {K : Nat} (out : way t.mask x K ∉ t.place.toList) (ins : ∀ c, c < K → way t.mask x c ∈ t.place.toList) :
    SetTable.below t.place (way t.mask x K) ≤ hs.length ∧ Tab (t.put (way t.mask x K)).1 (hs.take (SetTable.below t.place (way t.mask x K)) ++ x :: hs.drop (SetTable.below t.place (way t.mask x K))) := by
  obtain ⟨cut, -, -⟩ := below_cut T.up (way t.mask x K)
  have pl := put_place t (way t.mask x K)
  have nw : t.place[SetTable.below t.place (way t.mask x K)]? ≠ some (way t.mask x K) := fun z => out (List.mem_of_getElem? (i := SetTable.below t.place (way t.mask x K)) (by rw [Array.getElem?_toList]; exact z))
  have rs : Ris (t.put (way t.mask x K)).1.place.toList := ris_insert T.up nw
  have cut1 : SetTable.below t.place (way t.mask x K) ≤ t.place.toList.length := by rw [Array.length_toList]; exact cut
  have cut2 : SetTable.below t.place (way t.mask x K) ≤ hs.length := by rw [← T.eq]; exact cut1
  have old : ∀ {y : Nat}, y ∈ t.place.toList → y ∈ (t.put (way t.mask x K)).1.place.toList := fun h => by rw [pl]; exact mem_ins.mpr (.inr h)
  have rest : ∀ (n : Nat) (x' : Int) (y : Nat), hs[n]? = some x' → t.place.toList[n]? = some y → ∃ k, way t.mask x' k = y ∧ ∀ c, c < k → way t.mask x' c ∈ (t.put (way t.mask x K)).1.place.toList := fun n x' y h1 h2 => by
    obtain ⟨k, e, z⟩ := T.fd n x' y h1 h2
    exact ⟨k, e, fun c hc => old (z c hc)⟩
  have at1 : (t.put (way t.mask x K)).1.mask = t.mask := rfl
  refine ⟨cut2, rs, put_dm T.dm _, by rw [pl, len_ins _ cut1, len_ins _ cut2, T.eq], T.gd, fun y hy => ?_, fun n x' y h1 h2 => ?_⟩
  · rw [pl] at hy
    rcases mem_ins.mp hy with z | z
    · rw [z]; exact way_in x K
    · exact T.le y z
  · rw [pl, tins_get _ cut1] at h2
    rw [tins_get _ cut2] at h1
    rw [at1]
    split at h2
    · next c =>
      rw [if_pos c] at h1
      exact rest n x' y h1 h2
    · next c =>
      rw [if_neg c] at h1
      split at h2
      · next d =>
        rw [if_pos d] at h1
        cases h1; cases h2
        exact ⟨K, rfl, fun c hc => old (ins c hc)⟩
      · next d =>
        rw [if_neg d] at h1
        exact rest _ x' y h1 h2
theorem own_next {m : Nat} (g : Good m) {done : List Int} {ow : Array (Option Nat)} (O : Own m done ow) (hl : done.length ≤ m) (x : Int) :
    ∃ j, SetTable.layClean.free m ow (SetTable.turns m) (SetTable.bits x % (m + 1)) (SetTable.bits x) = some j ∧ Own m (done ++ [x]) (ow.setIfInBounds j (some done.length)) := by
  obtain ⟨ps, lps, hps⟩ := O.ps
  obtain ⟨j0, b0, n0⟩ := st_missing ps (m + 1) (by omega)
  have f0 : oAt ow j0 = none := Classical.byContradiction fun z => n0 (hps j0 (by omega) z)
  obtain ⟨n, hn, en⟩ := good_runs g x (Nat.le_of_lt_succ b0)
  have wn : way m x (off m (SetTable.bits x % (m + 1)) (SetTable.bits x) n) = j0 := (congrArg SetTable.Probe.j ((nth_off m n _ _).trans (by rw [itL_run]))).trans en
  obtain ⟨K, k1, k2, k3⟩ := st_least (p := fun c => oAt ow (way m x c) = none) (off m (SetTable.bits x % (m + 1)) (SetTable.bits x) n) (by rw [wn]; exact f0)
  have ht : SetTable.turns m = m + 15 := rfl
  have fr := free_spec m ow (SetTable.turns m) n (SetTable.bits x % (m + 1)) (SetTable.bits x) K (by omega) k1 (fun c hc => by
    cases z : oAt ow (nth m (runAt m (SetTable.bits x % (m + 1)) (SetTable.bits x)) c).j with
    | none => exact absurd z (k3 c hc)
    | some _ => rfl) (by rw [show oAt ow (nth m (runAt m (SetTable.bits x % (m + 1)) (SetTable.bits x)) K).j = none from k2]; rfl)
  have inb : way m x K < ow.size := by have := way_in (m := m) x K; rw [O.sz]; omega
  have here := oAt_set_self (some done.length) inb
  generalize hj : way m x K = j at k2 inb here
  have fr' : SetTable.layClean.free m ow (SetTable.turns m) (SetTable.bits x % (m + 1)) (SetTable.bits x) = some j := by rw [fr]; exact congrArg some hj
  have full : ∀ i, oAt ow i ≠ none → oAt (ow.setIfInBounds j (some done.length)) i ≠ none := fun i hi => by
    by_cases c : i = j
    · rw [c, here]; simp
    · rw [oAt_set_ne _ c]; exact hi
  refine ⟨j, fr', by rw [Array.size_setIfInBounds]; exact O.sz, fun i k hi e => ?_, fun k hk => ?_, j :: ps, by simp [lps], fun i hi e => ?_⟩
  · by_cases c : i = j
    · rw [c, here] at e
      cases e
      exact ⟨x, K, by simp, by rw [hj, c], fun c hc => full _ (k3 c hc)⟩
    · rw [oAt_set_ne _ c] at e
      obtain ⟨y, K', a1, a2, a3⟩ := O.at_ i k hi e
      exact ⟨y, K', by rw [List.getElem?_append_left (List.getElem?_eq_some_iff.mp a1).1]; exact a1, a2, fun c hc => full _ (a3 c hc)⟩
  · by_cases c : k < done.length
    · obtain ⟨i, hi, e⟩ := O.all k c
      exact ⟨i, hi, by rw [oAt_set_ne _ fun z => by rw [z, k2] at e; cases e]; exact e⟩
    · have ek : k = done.length := by simp at hk; omega
      exact ⟨j, by rw [← hj]; exact way_in x K, by rw [ek]; exact here⟩
  · by_cases c : i = j
    · simp [c]
    · rw [oAt_set_ne _ c] at e
      exact List.mem_cons_of_mem _ (hps i hi e)
theorem layW_all {m : Nat} (g : Good m) : ∀ (rest done : List Int) (ow : Array (Option Nat)), Own m done ow → done.length + rest.length ≤ m → ∃ ow', rest.foldl (stepF m) (some (ow, done.length)) = some (ow', (done ++ rest).length) ∧ Own m (done ++ rest) ow'
  | [], done, ow, O, _ => ⟨ow, by simp, by simpa using O⟩
  | x :: rest, done, ow, O, hl => by
    have hl1 : done.length + (rest.length + 1) ≤ m := hl
    obtain ⟨j, e, O1⟩ := own_next g O (by omega) x
    obtain ⟨ow', f, O2⟩ := layW_all g rest (done ++ [x]) _ O1 (by rw [List.length_append, List.length_singleton]; omega)
    rw [List.append_assoc, List.singleton_append] at f O2
    rw [List.length_append, List.length_singleton] at f
    exact ⟨ow', by rw [List.foldl_cons, stepF_some e]; exact f, O2⟩
theorem relay_tab (t : SetTable) {xs : Array Int} {n m : Nat} (hw : SetTable.sizeAbove n - 1 = m) (g : Good m) (hn : xs.size ≤ m) :
    ∃ t' ord, t.relaid xs n = some (t', ord) ∧ ord.toList.Perm (List.range xs.size) ∧ Tab t' (ord.toList.map fun i => xs.getD i 0) ∧ t'.mask = m ∧ t'.led = t.led ∧ t'.plain = t.plain := by
  obtain ⟨ow, f, O⟩ := layW_all g xs.toList [] _ (Own.init m) (by show 0 + xs.toList.length ≤ m; rw [Array.length_toList]; omega)
  rw [List.nil_append] at O
  have cl : SetTable.layClean m xs = some ow := by
    rw [layClean_eq]
    have f1 : xs.toList.foldl (stepF m) (some (Array.replicate (m + 1) none, 0)) = _ := f
    rw [f1]; rfl
  have re : t.relaid xs n = some (tabOf t m ow, ((liveOf m ow).map (·.2)).toArray) := by rw [relaid_eq, hw, cl]; rfl
  obtain ⟨up, sub⟩ := ris_live (fun j => ow.getD j none) (List.range (m + 1)) (by unfold Ris; first | exact List.pairwise_lt_range | exact List.pairwise_lt_range _)
  have up1 : Ris ((liveOf m ow).map (·.1)) := up
  have allK : ∀ k, k < xs.size → k ∈ (liveOf m ow).map (·.2) := fun k hk => by
    obtain ⟨j, hj, e⟩ := O.all k (by rw [Array.length_toList]; exact hk)
    exact List.mem_map.mpr ⟨(j, k), (mem_live O.sz).mpr ⟨hj, e⟩, rfl⟩
  have len : (liveOf m ow).length = xs.size := by
    obtain ⟨ps, p1, p2⟩ := O.ps
    have nd1 : ((liveOf m ow).map (·.1)).Nodup := List.Pairwise.imp (fun {a b} (h : a < b) => Nat.ne_of_lt h) (show List.Pairwise (fun a b => a < b) ((liveOf m ow).map (·.1)) from up1)
    have le1 := nat_nodup_len ((liveOf m ow).map (·.1)) ps nd1 fun y hy => by
      obtain ⟨⟨a, b⟩, hq, rfl⟩ := List.mem_map.mp hy
      have := (mem_live O.sz).mp hq
      exact p2 a this.1 (by rw [this.2]; simp)
    have le2 := nat_nodup_len (List.range xs.size) ((liveOf m ow).map (·.2)) List.nodup_range fun k hk => allK k (List.mem_range.mp hk)
    rw [List.length_map, p1, Array.length_toList] at le1
    rw [List.length_map, List.length_range] at le2
    exact Nat.le_antisymm le1 le2
  refine ⟨_, _, re, perm_range xs.size _ (by rw [List.toList_toArray, List.length_map]; exact len) allK, ⟨up1, rfl, ?_, g, fun y hy => Nat.le_of_lt_succ (List.mem_range.mp (sub y hy)), fun c x y h1 h2 => ?_⟩, rfl, rfl, rfl⟩
  · show ((liveOf m ow).map (·.1)).length = (((liveOf m ow).map (·.2)).map _).length
    rw [List.length_map, List.length_map, List.length_map]
  · replace h1 : (((liveOf m ow).map (·.2)).map fun i => xs.getD i 0)[c]? = some x := h1
    replace h2 : ((liveOf m ow).map (·.1))[c]? = some y := h2
    rw [List.getElem?_map] at h2
    obtain ⟨⟨a, b⟩, hq, rfl⟩ := Option.map_eq_some_iff.mp h2
    rw [List.getElem?_map, List.getElem?_map, hq] at h1
    have h1 : xs.getD b 0 = x := Option.some.inj h1
    obtain ⟨ha, hb⟩ := (mem_live O.sz).mp (List.mem_of_getElem? hq)
    obtain ⟨x', K, a1, a2, a3⟩ := O.at_ a b ha hb
    rw [Array.getD_eq_getD_getElem?, ← Array.getElem?_toList, a1] at h1
    have h1 : x' = x := h1
    subst h1
    refine ⟨K, a2, fun q hq => ?_⟩
    show way m x' q ∈ (liveOf m ow).map (·.1)
    cases z : oAt ow (way m x' q) with
    | none => exact absurd z (a3 q hq)
    | some k2 => exact List.mem_map.mpr ⟨(way m x' q, k2), (mem_live O.sz).mpr ⟨way_in x' q, z⟩, rfl⟩
theorem size_308 : SetTable.sizeAbove (SetTable.grown 77) = 512 := by decide +kernel
end
end G7

set_option maxRecDepth 100000
namespace G7
open PySem PySem.Spec PyProof.Rows L2
structure SetW (P : Program) (w : World) (h : Heap) (a : Addr) (L : KT) (es : Array (Int × Value)) (ep : Nat) (t : SetTable) : Prop where
  ob : ∃ o, h.get? a = some o ∧ o.ExactSet ∧ o.data = .set es ep t
  rs : es.toList = rowsOf P w L
  tb : Tab t (L.map fun p => thash P w p.2)
  nd : (L.map (·.2)).Nodup
  tp : ∀ p ∈ L, IsT P w h p.2 p.1
  pn : t.plain = true
  ld : w.params.followText "set-order" = true ∨ t.led = true
  rm : L.length * 5 < t.mask * 3
theorem rows_len {P : Program} {w : World} {L : KT} {es : Array (Int × Value)} (e : es.toList = rowsOf P w L) : es.size = L.length := by
  rw [← Array.length_toList, e]
  exact List.length_map _
/-- the state of the search at its c-th step -/
def stW (t : SetTable) (z : Int) (c : Nat) : SetTable.Probe := nth t.mask (runAt t.mask (SetTable.bits z % (t.mask + 1)) (SetTable.bits z)) c
section
variable {P : Program} {w : World} {A : Around} {E : Value → Shared → Prop} {s : Shared} {a x : Addr} {k : List Int} {L : KT} {es : Array (Int × Value)} {ep : Nat} {t : SetTable}
theorem SetW.size {h : Heap} (R : SetW P w h a L es ep t) : es.size = L.length := rows_len R.rs
theorem SetW.places {h : Heap} (R : SetW P w h a L es ep t) : t.place.toList.length = L.length := by rw [R.tb.eq, List.length_map]
theorem fits_of (e1 : t.place.toList.length = es.size) (e2 : t.dummies = #[]) (e3 : es.size ≤ t.mask) : t.fits es.size = true := by
  have e4 : t.place.size = es.size := e1
  unfold SetTable.fits SetTable.fill
  rw [e2, e4]
  simpa using e3
theorem SetW.fit {h : Heap} (R : SetW P w h a L es ep t) : t.fits es.size = true :=
  fits_of (by rw [R.places, R.size]) R.tb.dm (by have := R.rm; rw [R.size]; omega)
theorem SetW.row {h : Heap} (R : SetW P w h a L es ep t) {i : Nat} {p : Addr × List Int} (e : L[i]? = some p) : es[i]? = some (thash P w p.2, Value.ref p.1) := by
  rw [← Array.getElem?_toList, R.rs, rowsOf, List.getElem?_map, e]
  rfl
theorem SetW.keep {h h' : Heap} (R : SetW P w h a L es ep t) (k1 : ∀ o, h.get? a = some o → h'.get? a = some o) (k2 : ∀ p ∈ L, IsT P w h' p.2 p.1) : SetW P w h' a L es ep t := by
  obtain ⟨o, e, r⟩ := R.ob
  exact ⟨⟨o, k1 o e, r⟩, R.rs, R.tb, R.nd, k2, R.pn, R.ld, R.rm⟩
theorem setW_new {h : Heap} (e : h.get? a = some (setO0 w)) : SetW P w h a [] #[] 0 (.fresh 0 0 (!w.params.followText "set-order")) := by
  refine ⟨⟨_, e, ⟨rfl, rfl, rfl⟩, rfl⟩, rfl, ⟨.nil, rfl, rfl, .inl (.inl rfl), fun y hy => (by cases hy), fun n x y h1 => (by simp at h1)⟩, .nil, fun p hp => (by cases hp), rfl, ?_, (by show 0 * 5 < 7 * 3; decide)⟩
  show _ ∨ (!w.params.followText "set-order") = true
  cases w.params.followText "set-order" <;> simp
/-- the search from its c-th step on -/
theorem seek {z : Int} (R : SetW P w s.heap a L es ep t) (isx : IsT P w s.heap k x) (ez : thash P w k = z) (room : A.units < cLine) {K : Nat} (big : K < 10 * SetTable.turns t.mask)
    (out : way t.mask z K ∉ t.place.toList) (ins : ∀ c, c < K → way t.mask z c ∈ t.place.toList) {Q : SetFound → Shared → Prop} (yes : k ∈ L.map (·.2) → Q (.there none) s) (no : k ∉ L.map (·.2) → Q (.free (way t.mask z K) false) s) :
    ∀ (f c : Nat) (st : Option SetTable.Probe), st.getD (t.probeStart z) = stW t z c → c ≤ K → K < c + f → (∀ (i : Nat) (p : Addr × List Int), L[i]? = some p → p.2 = k → ∃ b, c ≤ b ∧ b < K ∧ t.place.toList[i]? = some (way t.mask z b)) →
      wpAny (model P w) A (setSearchFrom a (.ref x) z true f st) Q E s
  | 0, c, st, _, h1, h2, _ => absurd h2 (by omega)
  | f + 1, c, st, hst, h1, h2, left => by
    obtain ⟨ob, eo, xo, dob⟩ := R.ob
    rw [setSearchFrom_succ]
    refine wpAny_bind (wpAny_setState_of eo dob R.fit ?_)
    dsimp only
    refine wp_if_neg (by unfold SetTable.gaveWay; rw [good_odd R.tb.gd]; decide) ?_
    try refine wpAny_bind (wpAny_pure ?_)
    have shift : ∀ q, nth t.mask (stW t z c) q = stW t z (c + q) := fun q => (nth_add t.mask c _ q).symm
    have clean : ∀ n, (stW t z n).dummy = none := fun n => by
      induction n with
      | zero => rfl
      | succ n ih =>
        unfold stW at ih ⊢
        rw [nth_succ]
        unfold adv
        split <;> exact ih
    have spec := go_spec t R.tb.up R.tb.dm (fun i => (es[i]?.map (·.1)).getD 0) z (10 * SetTable.turns t.mask) (K - c) (stW t z c) (clean c) (by omega) (fun q hq => by rw [shift]; exact ins (c + q) (by omega)) (by rw [shift, show c + (K - c) = K by omega]; exact out)
    simp only [shift] at spec
    have hash : ∀ (i : Nat) (p : Addr × List Int), L[i]? = some p → p.2 = k → (es[i]?.map (·.1)).getD 0 = z := fun i p hp e => by
      rw [R.row hp, ← ez, ← e]; rfl
    rcases spec with ⟨q, i, hq, hi, hh, hno, hpr⟩ | ⟨hno, hpr⟩
    · have cand : t.probe (fun i => (es[i]?.map (·.1)).getD 0) z (st.getD (t.probeStart z)) = some (.candidate (way t.mask z (c + q)) i (stW t z (c + (q + 1)))) := by rw [hst]; exact hpr
      rw [cand]
      dsimp only
      have hi : t.place.toList[i]? = some (way t.mask z (c + q)) := hi
      have il : i < L.length := by rw [← R.places]; exact (List.getElem?_eq_some_iff.mp hi).1
      obtain ⟨p, hp⟩ : ∃ p, L[i]? = some p := ⟨_, List.getElem?_eq_getElem il⟩
      have pm : p ∈ L := List.mem_of_getElem? hp
      have live : t.slot (way t.mask z (c + q)) = .live i := slot_live R.tb.up hi
      have behind : wpAny (model P w) A (searchRest a (.ref x) z true f es t (way t.mask z (c + q)) i (stW t z (c + (q + 1)))) Q E s := by
        unfold searchRest
        rw [R.row hp]
        dsimp only
        refine wpAny_bind (wpAny_holding (wpAny_eqBool_tuple room (R.tp p pm) isx ?_))
        refine wpAny_bind (wpAny_setState_of eo dob R.fit ?_)
        dsimp only
        by_cases ek : p.2 = k
        · refine wp_if_pos (by simp [ek]) (wpAny_pure (yes ?_))
          exact List.mem_map.mpr ⟨p, pm, ek⟩
        · refine wp_if_neg (by simp [ek]) ?_
          try refine wpAny_bind (wpAny_pure ?_)
          rw [sameMem]
          dsimp only
          simp only [if_true, live, R.row hp]
          refine wpAny_bind (wpAny_isSame_ref_self (wpAny_bind (wpAny_pure ?_)))
          simp only [if_true]
          refine wp_if_neg (by simp [ek]) (seek R isx ez room big out ins yes no f (c + (q + 1)) _ rfl (by omega) (by omega) fun i0 p0 h0 e0 => ?_)
          obtain ⟨b, b1, b2, b3⟩ := left i0 p0 h0 e0
          refine ⟨b, ?_, b2, b3⟩
          apply Classical.byContradiction
          intro nb
          by_cases be : b = c + q
          · have l0 := slot_live R.tb.up b3
            rw [be, live] at l0
            cases l0
            rw [hp] at h0
            cases h0
            exact ek e0
          · exact hno (b - c) i0 (by omega) (by rw [show c + (b - c) = b by omega]; exact b3) (hash i0 p0 h0 e0)
      by_cases led : t.led = true
      · refine wp_if_neg (by simp [led]) ?_
        try refine wpAny_bind (wpAny_pure ?_)
        exact behind
      · refine wp_if_pos (by simp [led]) (wpAny_bind (seen_tup isx (fun y hy => ?_) ?_))
        · obtain ⟨e, he, rfl⟩ := List.mem_map.mp hy
          have he : e ∈ es.toList := by
            have := (Array.mem_filter.mp (Array.mem_toList_iff.mp he)).1
            exact Array.mem_toList_iff.mpr this
          rw [R.rs] at he
          obtain ⟨p2, hp2, rfl⟩ := List.mem_map.mp he
          exact ⟨p2.2, p2.1, rfl, R.tp p2 hp2⟩
        · refine wp_if_neg (by decide) ?_
          try refine wpAny_bind (wpAny_pure ?_)
          exact behind
    · have hole : t.probe (fun i => (es[i]?.map (·.1)).getD 0) z (st.getD (t.probeStart z)) = some (.empty (way t.mask z K) none) := by
        rw [show c + (K - c) = K by omega] at hpr
        rw [hst]
        exact hpr
      rw [hole]
      dsimp only
      refine wpAny_pure (no fun km => ?_)
      obtain ⟨p0, m0, e0⟩ := List.mem_map.mp km
      obtain ⟨i0, hi0, ei⟩ := List.getElem_of_mem m0
      have h0 : L[i0]? = some p0 := by rw [List.getElem?_eq_getElem hi0, ei]
      obtain ⟨b, b1, b2, b3⟩ := left i0 p0 h0 e0
      exact hno (b - c) i0 (by omega) (by rw [show c + (b - c) = b by omega]; exact b3) (hash i0 p0 h0 e0)
theorem seek_all (R : SetW P w s.heap a L es ep t) (isx : IsT P w s.heap k x) (room : A.units < cLine) {Q : SetFound → Shared → Prop} (yes : k ∈ L.map (·.2) → Q (.there none) s)
    (no : ∀ K, k ∉ L.map (·.2) → way t.mask (thash P w k) K ∉ t.place.toList → (∀ c, c < K → way t.mask (thash P w k) c ∈ t.place.toList) → Q (.free (way t.mask (thash P w k) K) false) s) :
    wpAny (model P w) A (setSearch a (.ref x) (thash P w k) true) Q E s := by
  have rm := R.rm
  have m5 := good_511 R.tb.gd
  have ht : SetTable.turns t.mask = t.mask + 15 := rfl
  obtain ⟨K, big, out, ins⟩ := R.tb.gap (by rw [List.length_map]; omega) (thash P w k)
  unfold setSearch
  refine seek R isx rfl room big out ins yes (fun n => no K n out ins) 100000 0 none rfl (Nat.zero_le _) (by omega) fun i p hp e => ?_
  obtain ⟨c, hc, ec⟩ := R.tb.ahead (n := i) out (by rw [List.getElem?_map, hp, ← e]; rfl)
  exact ⟨c, Nat.zero_le _, hc, ec⟩
/-- the table laid anew -/
theorem relay_big {o : Obj} (eo : s.heap.get? a = some o) (xo : o.ExactSet) (dob : o.data = .set es ep t) (rs : es.toList = rowsOf P w L) (pl : t.place.toList.length = L.length) (dm : t.dummies = #[]) (le : L.length ≤ t.mask)
    (nd : (L.map (·.2)).Nodup) (tp : ∀ p ∈ L, IsT P w s.heap p.2 p.1) (pn : t.plain = true) (ld : w.params.followText "set-order" = true ∨ t.led = true) {n m : Nat} (hn : SetTable.sizeAbove n - 1 = m) (g : Good m) (hs : SetTable.sizeAbove n ≤ 512)
    (rm : L.length * 5 < m * 3) {Q : Unit → Shared → Prop} (fin : ∀ h' L' es' ep' t', Heap.SameBut a s.heap h' → SetW P w h' a L' es' ep' t' → L'.Perm L → Q () { s with heap := h' }) : wpAny (model P w) A (setRelay a n) Q E s := by
  have sz := rows_len rs
  have ft : t.fits es.size = true := fits_of (by rw [pl, sz]) dm (by rw [sz]; exact le)
  obtain ⟨t', ord, e, pm, T, e1, e2, e3⟩ := relay_tab t (xs := es.map (·.1)) hn g (by rw [Array.size_map, sz]; omega)
  rw [Array.size_map, sz] at pm
  obtain ⟨L2, r1, r2, r3⟩ := order_rows L es ord rs pm
  rw [← r3] at T
  have sz2 : (ord.filterMap (es[·]?)).size = es.size := by rw [rows_len r1, r2.length_eq, sz]
  rw [setRelay_eq]
  refine wpAny_bind (wpAny_setState_of eo dob ft ?_)
  dsimp only
  refine wp_if_neg (by rw [sizeLine_eq]; omega) ?_
  try refine wpAny_bind (wpAny_pure ?_)
  rw [e]
  dsimp only
  refine wpAny_bind (wp_if_neg (by rw [sz2]; simp) ?_)
  try refine wpAny_bind (wpAny_pure ?_)
  refine wpAny_pure ?_
  dsimp only
  have lim := good_511 g
  refine wpAny_storeSet_of eo dob ?_ (by rw [sz2, sz, sizeLine_eq]; omega)
  have same : Heap.SameBut a s.heap (s.heap.update a (Obj.putSet (ord.filterMap (es[·]?)) t')) := Heap.SameBut.update ..
  exact fin _ L2 _ (ep + 1) t' same ⟨⟨_, store_at eo dob, ⟨xo.1, xo.2.1, xo.2.2⟩, rfl⟩, r1, T, (r2.map (·.2)).nodup_iff.mpr nd, fun p hp => isT_same (tp p (r2.mem_iff.mp hp)) eo dob same, by rw [e3]; exact pn, by rw [e2]; exact ld, by rw [r2.length_eq, e1]; exact rm⟩ r2
/-- one more -/
theorem add_big (R : SetW P w s.heap a L es ep t) (isx : IsT P w s.heap k x) (room : A.units < cLine) (cap : L.length + 1 ≤ 306) {Q : Bool → Shared → Prop}
    (fin : ∀ b h' L' es' ep' t', Heap.SameBut a s.heap h' → SetW P w h' a L' es' ep' t' → (k ∈ L.map (·.2) → L' = L) → (k ∉ L.map (·.2) → L'.Perm ((x, k) :: L)) → Q b { s with heap := h' }) :
    wpAny (model P w) A (setAddHashed a (.ref x) (thash P w k)) Q E s := by
  obtain ⟨o, eo, xo, dob⟩ := R.ob
  have sz := R.size
  have rm := R.rm
  unfold setAddHashed
  refine wpAny_holding ?_
  rw [show (100000 : Nat) = 99999 + 1 from rfl, setAddHashedIn_succ]
  refine wpAny_bind (wpAny_setState_of eo dob R.fit ?_)
  dsimp only
  refine wp_if_neg (by simp [byScan, Value.scannable]) ?_
  try refine wpAny_bind (wpAny_pure ?_)
  refine wpAny_bind (seek_all R isx room (fun km => ?_) fun K km out ins => ?_)
  · dsimp only
    exact wpAny_pure (fin false s.heap L es ep t (.refl a s.heap) R (fun _ => rfl) fun c => absurd km c)
  dsimp only
  refine wpAny_bind (wpAny_setState_of eo dob R.fit ?_)
  dsimp only
  obtain ⟨cut, T⟩ := R.tb.put out ins
  have f1 : (t.put (way t.mask (thash P w k) K)).2 = SetTable.below t.place (way t.mask (thash P w k) K) := rfl
  have f2 : (t.put (way t.mask (thash P w k) K)).1.mask = t.mask := rfl
  have f3 : (t.put (way t.mask (thash P w k) K)).1.plain = true := R.pn
  have f4 : (t.put (way t.mask (thash P w k) K)).1.led = t.led := rfl
  generalize t.put (way t.mask (thash P w k) K) = tp at T f1 f2 f3 f4 ⊢
  obtain ⟨t1, p⟩ := tp
  dsimp only at T f1 f2 f3 f4 ⊢
  rw [← f1] at T cut
  rw [List.length_map] at cut
  first
    | (refine wpAny_bind (wp_if_pos f3 (hashBy_tup isx ?_)))
    | refine wp_if_pos f3 (wpAny_bind (hashBy_tup isx ?_))
  simp only [if_true]
  have r1 : (SetTable.insertAt es p (thash P w k, Value.ref x)).toList = rowsOf P w (L.take p ++ (x, k) :: L.drop p) := by rw [SetTable.toList_insertAt, rows_put, R.rs]
  have mp : ((L.map fun p => thash P w p.2).take p ++ thash P w k :: (L.map fun p => thash P w p.2).drop p) = (L.take p ++ (x, k) :: L.drop p).map fun p => thash P w p.2 := by rw [List.map_append, List.map_cons, List.map_take, List.map_drop]
  rw [mp] at T
  have pm := put_perm L p (x, k)
  generalize SetTable.insertAt es p (thash P w k, Value.ref x) = es1 at r1 ⊢
  generalize L.take p ++ (x, k) :: L.drop p = L1 at pm T r1
  have l1 : L1.length = L.length + 1 := pm.length_eq
  have s1 : es1.size = L.length + 1 := (rows_len r1).trans l1
  refine wpAny_bind (wpAny_storeSet_of eo dob ?_ (by rw [s1, sizeLine_eq]; omega))
  have same : Heap.SameBut a s.heap (s.heap.update a (Obj.putSet es1 t1)) := Heap.SameBut.update ..
  have at1 := store_at (es' := es1) (t' := t1) eo dob
  generalize s.heap.update a (Obj.putSet es1 t1) = h1 at same at1 ⊢
  have nd1 : (L1.map (·.2)).Nodup := (pm.map (·.2)).nodup_iff.mpr (List.nodup_cons.mpr ⟨km, R.nd⟩)
  have tp1 : ∀ q ∈ L1, IsT P w h1 q.2 q.1 := fun q hq => by
    rcases List.mem_cons.mp (pm.mem_iff.mp hq) with rfl | hq
    · exact isT_same isx eo dob same
    · exact isT_same (R.tp q hq) eo dob same
  have ld1 : w.params.followText "set-order" = true ∨ t1.led = true := by rw [f4]; exact R.ld
  have pl1 : t1.place.toList.length = L1.length := by rw [T.eq, List.length_map]
  have full : t1.tooFull = decide ((L.length + 1) * 5 ≥ t.mask * 3) := by
    have e4 : t1.place.size = L.length + 1 := pl1.trans l1
    unfold SetTable.tooFull SetTable.fill
    rw [T.dm, e4, f2]
    rfl
  by_cases c : (L.length + 1) * 5 ≥ t.mask * 3
  · have tf : t1.tooFull = true := full.trans (decide_eq_true c)
    first
      | (refine wpAny_bind (wp_if_pos (by simp [tf]) ?_))
      | (refine wp_if_pos (by simp [tf]) (wpAny_bind ?_))
    rw [sz]
    have done : ∀ m, SetTable.sizeAbove (SetTable.grown (L.length + 1)) - 1 = m → Good m → SetTable.sizeAbove (SetTable.grown (L.length + 1)) ≤ 512 → (L.length + 1) * 5 < m * 3 →
        wpAny (model P w) A (setRelay a (SetTable.grown (L.length + 1))) (fun _ s' => wpAny (model P w) A (pure true) Q E s') E { s with heap := h1 } := fun m a1 a2 a3 a4 => by
      refine relay_big (s := { s with heap := h1 }) at1 ⟨xo.1, xo.2.1, xo.2.2⟩ rfl r1 pl1 T.dm (by rw [f2, l1]; omega) nd1 tp1 f3 ld1 a1 a2 a3 (by rw [l1]; exact a4) fun h2 L2 es2 ep2 t2 same2 R2 pm2 => ?_
      exact wpAny_pure (fin true h2 L2 es2 ep2 t2 (same.trans same2) R2 (fun z => absurd z km) fun _ => pm2.trans pm)
    rcases R.tb.gd with (e | e | e) | e
    · have e5 : L.length + 1 = 5 := by omega
      rw [e5] at done ⊢
      exact done 31 (by rw [size_20]) (.inl (.inr (.inl rfl))) (by rw [size_20]; decide) (by omega)
    · have e5 : L.length + 1 = 19 := by omega
      rw [e5] at done ⊢
      exact done 127 (by rw [size_76]) (.inl (.inr (.inr rfl))) (by rw [size_76]; decide) (by omega)
    · have e5 : L.length + 1 = 77 := by omega
      rw [e5] at done ⊢
      exact done 511 (by rw [size_308]) (.inr rfl) (by rw [size_308]; decide) (by omega)
    · omega
  · have tf : t1.tooFull = false := full.trans (decide_eq_false c)
    first
      | refine wp_if_neg (by simp [tf]) ?_
      | (refine wpAny_bind (wp_if_neg (by simp [tf]) (wpAny_pure ?_)))
    exact wpAny_pure (fin true h1 L1 es1 (ep + 1) t1 same ⟨⟨_, at1, ⟨xo.1, xo.2.1, xo.2.2⟩, rfl⟩, r1, T, nd1, tp1, f3, ld1, by rw [l1, f2]; omega⟩ (fun z => absurd z km) fun _ => pm)
end
end G7

set_option maxRecDepth 100000
namespace G7
open PySem PySem.Spec PyProof.Rows L2
def FewB (ks : KT) : Prop := ∀ L : KT, (L.map (·.2)).Nodup → (∀ p ∈ L, p ∈ ks) → L.length ≤ 305
/-- at a stands the set of these tuples -/
def TupSetW (P : Program) (w : World) (h : Heap) (a : Addr) (ks : KT) : Prop := ∃ L es ep t, SetW P w h a L es ep t ∧ (∀ p ∈ L, p ∈ ks) ∧ ∀ p ∈ ks, p.2 ∈ L.map (·.2)
/-- midway: i of them put in, what was there is there -/
structure MidW (P : Program) (w : World) (hb : Heap) (S : Addr) (ks : KT) (i : Nat) (s : Shared) : Prop where
  kp : ∀ b o, hb.get? b = some o → s.heap.get? b = some o
  st : ∃ L es ep t, SetW P w s.heap S L es ep t ∧ Got ks i L
section
variable {P : Program} {w : World} {A : Around} {E : Value → Shared → Prop} {s : Shared}
theorem MidW.on {hb : Heap} {S : Addr} {ks : KT} {i : Nat} {s s' : Shared} (m : MidW P w hb S ks i s) (hk : ∀ p ∈ ks, IsT P w hb p.2 p.1) (k1 : ∀ b o, hb.get? b = some o → s.heap.get? b = some o → s'.heap.get? b = some o) (k2 : ∀ o, s.heap.get? S = some o → s'.heap.get? S = some o) : MidW P w hb S ks i s' := by
  have kp : ∀ b o, hb.get? b = some o → s'.heap.get? b = some o := fun b o e => k1 b o e (m.kp b o e)
  obtain ⟨L, es, ep, t, R, g⟩ := m.st
  exact ⟨kp, L, es, ep, t, R.keep k2 fun p hp => isT_keep (hk p (List.mem_of_mem_take (g.sub p hp))) kp, g⟩
theorem upd_tupsW {It : Addr} {fq wq : List Addr} {Gn : Array GenState → Array GenState → Prop} {m : Nat} {Pw : Nat → Value → Prop} {Sw : Nat → Shared → Prop} {Rz : Result → Shared → Prop}
    (W : WalksS P w A.in1 It fq wq Gn m Pw Sw) (S : Addr) (hS : S ∉ fq) (ks : KT) (hm : m = ks.length) (few : FewB ks) (val : ∀ i v, Pw i v → ∃ p, ks[i]? = some p ∧ v = .ref p.1)
    (hb : Heap) (hk : ∀ p ∈ ks, IsT P w hb p.2 p.1) (nS : hb.get? S = none) (nw : ∀ b ∈ wq, hb.get? b = none) (room : A.in1.units < cLine) :
    ∀ (left i : Nat) (s : Shared), m - i = left → i ≤ m → Sw i s → MidW P w hb S ks i s →
      (∀ s', Moved (S :: wq) Gn s s' → TupSetW P w s'.heap S ks → (∀ b o, hb.get? b = some o → s'.heap.get? b = some o) → Rz (.ok (.ret .none)) s') →
      codeAny (model P w) A (.builtin "set.update.loop" ⟨[.ref S, .ref It], []⟩) Rz s := by
  have Sq : S ∉ wq := fun z => hS (W.sub _ z)
  have up : ∀ b ∈ wq, b ∈ S :: wq := fun b z => List.mem_cons_of_mem _ z
  have on : ∀ {i : Nat} {u u' : Shared}, MidW P w hb S ks i u → Moved wq Gn u u' → MidW P w hb S ks i u' := fun mid mv =>
    mid.on hk (fun b o e e2 => mv.heap b o (fun z => by rw [nw b z] at e; cases e) e2) fun o e => mv.heap S o Sq e
  intro left
  induction left with
  | zero =>
    intro i s e0 hi st mid fin
    obtain rfl : i = m := by omega
    refine codeAny_builtin F.entry_set_update_loop ?_
    rw [Around.under_plainId F.plain_set_update_loop _]
    show wpAny _ A.in1 (pyNext (.ref It) >>= _) _ _ s
    refine wpAny_bind (W.done s _ _ st fun u mv => ?_)
    show wpAny _ A.in1 (ret Value.none) _ _ u
    have mid' := on mid mv
    obtain ⟨L, es, ep, t, R, g⟩ := mid'.st
    exact wpAny_pure (fin u (mv.mono up) ⟨L, es, ep, t, R, fun p hp => List.mem_of_mem_take (g.sub p hp), fun p hp => g.all p (by rw [hm, List.take_length]; exact hp)⟩ mid'.kp)
  | succ left ih =>
    intro i s e0 hi st mid fin
    have lt : i < m := by omega
    refine codeAny_builtin F.entry_set_update_loop ?_
    rw [Around.under_plainId F.plain_set_update_loop _]
    show wpAny _ A.in1 (pyNext (.ref It) >>= _) _ _ s
    refine wpAny_bind (W.item i s _ _ lt st fun v u hP st' mv => ?_)
    obtain ⟨p, hp, rfl⟩ := val i v hP
    have mid' := on mid mv
    obtain ⟨L, es, ep, t, R, g⟩ := mid'.st
    have isx : IsT P w u.heap p.2 p.1 := isT_keep (hk p (List.mem_of_getElem? hp)) mid'.kp
    have hl : L.length ≤ 305 := few L R.nd fun q hq => List.mem_of_mem_take (g.sub q hq)
    show wpAny _ A.in1 (holding [Value.ref p.1] (setAdd S (.ref p.1)) >>= _) _ _ u
    refine wpAny_bind (wpAny_holding ?_)
    unfold setAdd
    refine wpAny_holding (wpAny_bind (wpAny_pyHash_tuple room isx ?_))
    refine add_big (s := { u with toks := u.toks + (p.2.length + 1) }) R isx room (by omega) fun b h' L' es' ep' t' same R' c1 c2 => ?_
    have g' : Got ks (i + 1) L' := by
      by_cases c : p.2 ∈ L.map (·.2)
      · rw [c1 c]; exact g.same hp c
      · exact g.more hp (c2 c)
    have old : ∀ b o, b ≠ S → u.heap.get? b = some o → h'.get? b = some o := fun b o ne e => by rw [same.2 b ne]; exact e
    have mid2 : MidW P w hb S ks (i + 1) { u with heap := h', toks := u.toks + (p.2.length + 1) } :=
      ⟨fun b o e => old b o (fun z => by rw [z, nS] at e; cases e) (mid'.kp b o e), L', es', ep', t', R', g'⟩
    refine wpAny_pure ⟨plainId_quiet F.plain_set_update_loop _, ih (i + 1) _ (by omega) lt ?_ mid2 fun u2 mv2 ts kp => ?_⟩
    · exact W.frame _ u _ _ st' (Nat.le_add_right _ _) fun b z o e => old b o (fun y => hS (by rw [← y]; exact z)) e
    · exact fin u2 (Moved.trans W.gtrans ((mv.mono up).then_heap (Nat.le_add_right _ _) fun b o z e => old b o (fun y => z (by rw [y]; exact List.mem_cons_self)) e) mv2) ts kp
set_option maxHeartbeats 3200000 in
theorem call_set_tupW {l : Addr} {items : Array Value} (ks : KT) {Q : Value → Shared → Prop} (hh : A.handled = none) (hl : s.heap.IsList l items) (hit : items.toList = ks.map fun p => Value.ref p.1) (hk : ∀ p ∈ ks, IsT P w s.heap p.2 p.1) (few : FewB ks) (hu : A.units + 3 < cLine)
    (h : ∀ (h' : Heap) (tk : Nat), TupSetW P w h' s.heap.objs.size ks → (∀ b o, s.heap.get? b = some o → h'.get? b = some o) → Q (.ref s.heap.objs.size) { s with heap := h', toks := tk }) :
    wpAny (model P w) A (call (.type "set") [.ref l]) Q E s := by
  have hisz : items.size = ks.length := by
    have q := congrArg List.length hit
    simpa using q
  obtain ⟨c, tl, hmro⟩ := F.called_set.mro
  have hmade := F.called_set.made
  have hsub := F.called_set.sub
  refine wpAny_call (codeAny_of_tree ?_)
  show wpAny _ _ (callAny (.type "set") _) _ _ _
  refine wpAny_pure ⟨Code.quiet_builtin _ (by decide +kernel), codeAny_builtin F.entry_type_call ?_⟩
  rw [Around.under_plain (weight_type_call_type "set" [.ref l] []) rfl]
  have h1 := F.called_set.notType
  have h2 := F.called_set.canCreate
  have hct := F.typeCall_set_1 (.ref l)
  repeat (any_goals (first | assumption | wp_step))

  refine codeAny_mono (code_set_led1 (.ref l) (E := E) (Q₁ := fun obj s₁ => obj = .ref s.heap.objs.size ∧ s₁ = { s with heap := s.heap.push (setO0 w) }) ⟨rfl, rfl⟩) fun r s₁ hr => ?_
  cases r with
  | error e => exact hr
  | ok fl =>
    cases fl with
    | ret obj =>
      obtain ⟨rfl, rfl⟩ := hr
      have hS : (s.heap.push (setO0 w)).get? s.heap.objs.size = some (setO0 w) := Heap.get?_push_size _ rfl
      have hT : Shared.TypeIs { s with heap := s.heap.push (setO0 w) } (.ref s.heap.objs.size) "set" := ⟨_, hS, rfl⟩
      have hli := F.called_set.init.lookup
      have hbi := F.called_set.init.bind (.ref s.heap.objs.size)
      repeat (any_goals (first | assumption | wp_step))

      refine codeAny_mono (codeAny_call_builtin (R := wants (fun r s₂ => r = .none ∧ ∃ h' tk, s₂ = { s with heap := h', toks := tk } ∧ TupSetW P w h' s.heap.objs.size ks ∧
          (∀ b o, s.heap.get? b = some o → h'.get? b = some o)) E) F.called_set.init.plain F.entry_set_init (check_set_init_1 hT ?_)) fun r₂ s₂ hr₂ => ?_
      · obtain ⟨ol, hol, hcl, nl, hdl⟩ := hl
        obtain ⟨ocls, odict, odata, oslots⟩ := ol
        simp only at hcl hdl
        subst hcl; subst hdl
        have hol' : (s.heap.push (setO0 w)).get? l = some { cls := .type "list", dict := odict, data := .seq items nl, slots := oslots } := Heap.get?_push_of_some _ hol
        have hsls := F.sub_list_set
        have hslf := F.sub_list_frozenset
        have hne : (Value.type "list" == Value.type "dict") = false := by decide
        have hl1 : (s.heap.push (setO0 w)).IsList l items := ⟨_, hol', rfl, nl, rfl⟩
        unfold Builtin.«set.__init__» noKeywords Builtin.Frozenset.updateFrom
        generalize hPI : pyIter = PI
        wp_walk
        subst hPI

        refine wpAny_pyIter_list hl1 ?_
        refine wpAny_bind (wpAny_runValue ?_)
        have hlS : l < s.heap.objs.size := Heap.lt_size hol
        have hh3 : A.in1.in1.in1.handled = none := by simp [hh]
        have hz1 : (s.heap.push (setO0 w)).objs.size = s.heap.objs.size + 1 := Heap.size_push ..
        have hneI : l ≠ (s.heap.push (setO0 w)).objs.size := by
          rw [Heap.size_push]; exact Nat.ne_of_lt (Nat.lt_succ_of_lt hlS)
        have hSf : s.heap.objs.size ∉ [(s.heap.push (setO0 w)).objs.size, l] := by
          rw [Heap.size_push]; simp only [List.mem_cons, List.mem_singleton, List.not_mem_nil, or_false, not_or]
          exact ⟨Nat.ne_of_lt (Nat.lt_succ_self _), Nat.ne_of_gt hlS⟩
        have hval : ∀ (i : Nat) (v : Value), items[i]? = some v → ∃ p, ks[i]? = some p ∧ v = .ref p.1 := fun i v hv => by
          have hi : i < ks.length := by rw [← hisz]; exact (Array.getElem?_eq_some_iff.mp hv).1
          refine ⟨ks[i], List.getElem?_eq_getElem hi, ?_⟩
          have q : items.toList[i]? = some v := by rw [Array.getElem?_toList]; exact hv
          rw [hit, List.getElem?_map, List.getElem?_eq_getElem hi] at q
          exact (Option.some.inj q).symm
        have gone : ∀ b, s.heap.objs.size ≤ b → s.heap.get? b = none := fun b hb => by
          cases q : s.heap.get? b with
          | none => rfl
          | some o => exact absurd (Heap.lt_size q) (Nat.not_lt.mpr hb)
        refine upd_tupsW ((Walks.list hh3 _ l hneI items).toS) s.heap.objs.size hSf ks hisz few hval s.heap hk (gone _ (Nat.le_refl _)) (fun b hb => gone b (by rw [List.mem_singleton.mp hb, hz1]; exact Nat.le_succ _)) hu (items.size - 0) 0 _ (by omega) (Nat.zero_le _)
          ⟨⟨_, Heap.get?_push_size _ rfl, rfl, rfl⟩, (hl1.push _)⟩ ⟨fun b o e => Heap.get?_push_of_some _ (Heap.get?_push_of_some _ e), ?hS0⟩ ?hR
        case hS0 =>
          have hget : ((s.heap.push (setO0 w)).push { cls := .type "list_iterator", data := .fields #[.ref l, .int 0 0] }).get? s.heap.objs.size
              = some (setO0 w) := Heap.get?_push_of_some _ hS
          exact ⟨[], #[], 0, _, setW_new hget, Got.zero ks⟩
        case hR =>
          intro s' hm g' hfin
          obtain ⟨h', g2, d', tk', os'⟩ := s'
          have eg : g2 = s.gens := hm.gens
          have ed : d' = s.drawn := hm.drawn
          have eo : os' = s.os := hm.os
          subst eg; subst ed; subst eo
          show wpAny _ _ _ _ _ _
          refine wpAny_pure ?_
          show wpAny _ _ (ret Value.none) _ _ _
          exact wpAny_pure ⟨rfl, h', tk', rfl, g', hfin⟩

      · cases r₂ with
        | error e => exact hr₂
        | ok fl₂ =>
          cases fl₂ with
          | ret r =>
            obtain ⟨rfl, h', tk, rfl, hS', hk'⟩ := hr₂
            repeat (any_goals (first | assumption | wp_step))
            exact h _ _ hS' hk'
          | _ => exact hr₂.elim
    | _ => exact hr.elim

end
def lenTbD : D → Option D
  | .list xs => (tupsD xs).bind fun L => if (uniqT L).length ≤ 305 then some (.int ((uniqT L).length : Int)) else none
  | _ => none
theorem few_ofB {ks : KT} (h : (uniqT (ks.map (·.2))).length ≤ 305) : FewB ks := fun L nd sub => by
  have := sub_len nd (m := uniqT (ks.map (·.2))) fun k hk => by
    obtain ⟨p, hp, rfl⟩ := List.mem_map.mp hk
    exact mem_uniq.mpr (List.mem_map.mpr ⟨p, sub p hp, rfl⟩)
  rw [List.length_map] at this
  omega
def tTsetW (K : PySem.W.Frag) (ta : TE) (R : KT → Hp → VK → Prop) : TE := fun σ H Q => ta σ H fun x H1 => ∃ (l : Addr) (ks : KT), x = .ref l ∧ SqL K H1 l (ks.map fun p => V.ref p.1) ∧ (∀ p ∈ ks, SqT K H1 p.1 (p.2.map V.int)) ∧ (uniqT (ks.map (·.2))).length ≤ 305 ∧ R ks H1 Q
def rLenTW : KT → Hp → VK → Prop := fun ks H Q => Q (.int ((uniqT (ks.map (·.2))).length : Int)) H
section
variable {X : Cx} {κ : List SK} {M : List Nat} {k : RK} {w : WE}
theorem pe_lenTb {a : Expr} {ta : TE} {p p2 q pos : Pos} (hu : X.A.units + 65 < cLine) (hg : Gl X "len") (hm : X.mg "len" = none) (hg2 : Gl X "set") (hm2 : X.mg "set" = none) (ha : PE X a ta) (hc : X.calm = true)
    (na : starEach [a] X.env = (false, eval a X.env) :: starEach [] X.env := by rfl) : PE X (.Call (.Name "len" p) [.Call (.Name "set" p2) [a] [] q] [] pos) (tTsetW X.K ta rLenTW) := by
  refine ⟨fun pins s σ H Q I h => ?_⟩
  refine Call_ (ld_blt I hg hm boot_len ?_)
  refine callWith_builtin1 (args_cons ?_ rfl) rfl rfl
  refine Call_ (ld_blt I hg2 hm2 boot_set ?_)
  refine callWith_type1 (args_cons (thn (ha.run pins s σ H _ I h) fun v s1 ⟨x, H1, I1, r1, q1⟩ => args_nil ?_) na) na rfl
  obtain ⟨l, ks, rfl, hq, hk, few, q1⟩ := q1
  cases r1
  obtain ⟨its, r, pl, hz⟩ := I1.list hq
  refine call_set_tupW (P := X.prog) (w := X.w) ks (I1.ok.hd hc) pl.isList (by simpa using refs_of_vals r) (fun p hp => I1.isT (hk p hp)) (few_ofB few) (by omega) fun h' tk ⟨L, es, ep, t, R, sub, all⟩ kp => ?_
  refine args_nil ?_
  have I2 : Inv X pins σ H1 { s1 with heap := h', toks := tk } := I1.kept fun b o e => kp b o e
  obtain ⟨o, ho, hex, hd⟩ := R.ob
  have size := R.size
  have hl : L.length = (uniqT (ks.map (·.2))).length := by
    rw [← (uniq_perm R.nd fun k => ⟨fun m => ?_, fun m => ?_⟩).length_eq, List.length_map]
    · obtain ⟨p, hp, rfl⟩ := List.mem_map.mp m
      exact List.mem_map.mpr ⟨p, sub p hp, rfl⟩
    · obtain ⟨p, hp, rfl⟩ := List.mem_map.mp m
      exact all p hp
  have few2 := R.rm
  have few3 := good_511 R.tb.gd
  have q1 : Q (.int ((uniqT (ks.map fun p : Addr × List Int => p.2)).length : Int)) H1 := q1
  refine call_len_set ho hex hd (R.fit) (by rw [size]; omega) ⟨.int ((uniqT (ks.map fun p : Addr × List Int => p.2)).length : Int), H1, I2.tok _, ⟨_, by rw [size, hl]⟩, q1⟩
theorem se_lenTb {a : Expr} {p p2 q pos : Pos} (hu : X.A.units + 65 < cLine) (hg : Gl X "len") (hm : X.mg "len" = none) (hg2 : Gl X "set") (hm2 : X.mg "set" = none) (ha : SE X κ M k a w) (hc : X.calm = true := by rfl) (pa : k.rdable = true := by rfl)
    (na : starEach [a] X.env = (false, eval a X.env) :: starEach [] X.env := by rfl) : SE X κ M .fz (.Call (.Name "len" p) [.Call (.Name "set" p2) [a] [] q] [] pos) (wOp1 lenTbD w) :=
  SE.of (pe_lenTb hu hg hm hg2 hm2 ha hc na) fun σ H Q ⟨g, env, W, F, hw, post⟩ => ⟨g, env, _, F, hw, fun x H1 g1 e1 d1 F1 s1 r1 ⟨z, ez, w1⟩ => by
    cases d1 with
    | list xs =>
      simp only [lenTbD, Option.bind_eq_some_iff] at ez
      obtain ⟨L, hL, ez⟩ := ez
      split at ez
      · rename_i hl
        cases ez
        obtain ⟨l, ys, rfl, ra, _, la⟩ := (r1.rdb pa).toLst
        have := tupsD_back hL
        subst this
        obtain ⟨ks, e1, e2, e3⟩ := keys_of la
        subst e1
        subst e2
        exact ⟨l, ks, rfl, .inl ra, fun p hp => (e3 p hp).1, hl, post _ H1 g1 _ _ F1 s1 (.int _) w1⟩
      · cases ez
    | _ => cases ez⟩
end
end G7

set_option maxRecDepth 100000
namespace G7
open PySem PySem.Spec PyProof.Rows L2
def cast0 : D → D
  | .dict [(.none, .tuple ds)] => if frzOk ds = true then .tuple ds else xtD ds
  | d => d
/-- only of a pair with such a tuple -/
def castD : D → D
  | .tuple [.int n, .dict [(.none, .tuple ds)]] => .tuple [.int n, cast0 (xtD ds)]
  | d => d
section
variable {K : PySem.W.Frag} {H : Hp} {S : Addr → Prop}
theorem Rep.cast0 {v : V} {ds : List D} (r : Rep K H S v (xtD ds)) : Rep K H S v (cast0 (xtD ds)) := by
  show Rep K H S v (if frzOk ds = true then .tuple ds else xtD ds)
  split
  · next c =>
    obtain ⟨a, o, xs, rfl, n, e, ed, z, al⟩ := Rep.toXt r
    exact .tup n (.inr ⟨c, o, e, ed⟩) z al
  · exact r
theorem Rep.cast {v : V} {d : D} (r : Rep K H S v d) : Rep K H S v (castD d) := by
  unfold castD
  split
  · cases r with
    | tup n r z al =>
      cases al with
      | cons r1 t =>
        cases t with
        | cons r2 t2 =>
          have r3 := Rep.cast0 r2
          refine .tup n (r.imp (fun q => ⟨q.1, q.2⟩) fun q => ?_) z (.cons r1 (.cons r3 t2))
          exact ⟨by simpa [frzOk, frzOk0] using q.1, q.2⟩
  · exact r
end
def toX : D → D
  | .tuple xs => xtD xs
  | d => d
def wXt (w : WE) : WE := fun e Q => w e fun d e1 => Q (toX d) e1
section
variable {K : PySem.W.Frag} {H : Hp} {S : Addr → Prop}
theorem Rep.toX (hF : ∀ n, tupF n = true) {v : V} {d : D} (r : Rep K H S v d) : Rep K H S v (toX d) := by
  unfold G7.toX
  split
  · rename_i xs
    cases r with
    | tup n q z al =>
      rcases q with ⟨p, _⟩ | ⟨_, o, e, ed⟩
      · unfold plOk at p
        rw [hF] at p; cases p
      · exact .xt n e ed z al
  · exact r
end
end G7

set_option maxRecDepth 100000
namespace G7
open PySem PySem.Spec PyProof.Rows L2
end G7

set_option maxRecDepth 100000
namespace G7
open PySem PySem.Spec PyProof.Rows L2
mutual
/-- no list and no dict in it -/
def flat0 : D → Bool
  | .list _ => false
  | .tuple xs => flat0s xs
  | .dict _ => false
  | .none => true
  | .bool _ => true
  | .int _ => true
  | .str _ => true
def flat0s : List D → Bool
  | [] => true
  | d :: ds => flat0 d && flat0s ds
end
def flat1 : D → Bool
  | .dict [(.none, .tuple xs)] => flat0s xs
  | d => flat0 d
def flat1s : List D → Bool
  | [] => true
  | d :: ds => flat1 d && flat1s ds
section
variable {K : PySem.W.Frag} {H H' : Hp} {S S' : Addr → Prop}
mutual
theorem Rep.keepF (k : ∀ a o, ¬ S a → H a = some o → (∀ xs, o ≠ .lst xs) → H' a = some o) (hs : ∀ a, S' a → S a ∨ H a = none) : ∀ {d : D} {v : V}, flat0 d = true → Rep K H S v d → Rep K H' S' v d
  | _, _, _, .non => .non
  | _, _, _, .bl b => .bl b
  | _, _, _, .int i => .int i
  | _, _, _, .str x => .str x
  | _, _, h, .lst n r z al => by simp [flat0] at h
  | _, _, h, .tup n r z al => .tup (fun q => (hs _ q).elim n fun e => rd_tracked (rdT_rd r) e) (r.imp (fun q => ⟨q.1, k _ _ n q.2 fun xs z => by cases z⟩) fun ⟨x, o, q, d⟩ => ⟨x, o, k _ _ n q (fun xs z => by cases z), d⟩) z (al.keepF k hs (by simpa [flat0] using h))
  | _, _, h, .dK n r al => by simp [flat0] at h
  | _, _, h, .dT n r al => by simp [flat0] at h
  | _, _, h, .xt n r e z al => by simp [flat0] at h
  | _, _, h, .kt n r z al => by simp [flat0] at h
theorem RepAll.keepF (k : ∀ a o, ¬ S a → H a = some o → (∀ xs, o ≠ .lst xs) → H' a = some o) (hs : ∀ a, S' a → S a ∨ H a = none) : ∀ {ds : List D} {vs : List V}, flat0s ds = true → RepAll K H S vs ds → RepAll K H' S' vs ds
  | _, _, _, .nil => .nil
  | _, _, h, .cons r t => by
    simp only [flat0s, Bool.and_eq_true] at h
    exact .cons (r.keepF k hs h.1) (t.keepF k hs h.2)
end
theorem flat1_cases {d : D} (h : flat1 d = true) : flat0 d = true ∨ ∃ xs, d = xtD xs ∧ flat0s xs = true := by
  unfold flat1 at h
  split at h
  · exact .inr ⟨_, rfl, h⟩
  · exact .inl h
theorem Rep.keep1 (k : ∀ a o, ¬ S a → H a = some o → (∀ xs, o ≠ .lst xs) → H' a = some o) (hs : ∀ a, S' a → S a ∨ H a = none) {d : D} {v : V} (h : flat1 d = true) (r : Rep K H S v d) : Rep K H' S' v d := by
  rcases flat1_cases h with h | ⟨xs, rfl, h⟩
  · exact r.keepF k hs h
  · obtain ⟨a, o, ys, rfl, n, e, ed, z, al⟩ := Rep.toXt r
    exact .xt (fun q => (hs _ q).elim n fun e2 => by rw [e] at e2; cases e2) (k _ _ n e fun xs z => by cases z) ed z (al.keepF k hs h)
theorem RepAll.keep1 (k : ∀ a o, ¬ S a → H a = some o → (∀ xs, o ≠ .lst xs) → H' a = some o) (hs : ∀ a, S' a → S a ∨ H a = none) : ∀ {ds : List D} {vs : List V}, flat1s ds = true → RepAll K H S vs ds → RepAll K H' S' vs ds
  | _, _, _, .nil => .nil
  | _, _, h, .cons r t => by
    simp only [flat1s, Bool.and_eq_true] at h
    exact .cons (r.keep1 k hs h.1) (t.keep1 k hs h.2)
end
/-- what a slot of a kind keeps -/
def keepV : SK → D → Bool
  | .v, d => flat1 d
  | .r, d => flat1 d
  | .o, .list ys => flat1s ys
  | .q, .list ys => flat1s ys
  | .p, _ => true
  | .x _, _ => true
  | .f, .list ys => flat1s ys
  | .f, .tuple [d] => flat1 d
  | _, _ => false
def KeepE : List SK → En → En → Prop
  | k :: ks, some d :: e, some d' :: e' => d' = d ∧ keepV k d = true ∧ KeepE ks e e'
  | _ :: ks, _ :: e, none :: e' => KeepE ks e e'
  | [], [], [] => True
  | _, _, _ => False
theorem KeepE.at : ∀ {κ : List SK} {e e' : En}, KeepE κ e e' → e'.length = e.length ∧ ∀ i d, e'[i]? = some (some d) → e[i]? = some (some d) ∧ keepV (kindOf κ i) d = true
  | k :: ks, some d :: e, some d' :: e', h => by
    obtain ⟨rfl, h1, h2⟩ := h
    obtain ⟨l, h3⟩ := h2.at
    refine ⟨by simp [l], fun i x hx => ?_⟩
    cases i with
    | zero => simp at hx; subst hx; exact ⟨rfl, h1⟩
    | succ i => exact h3 i x (by simpa using hx)
  | k :: ks, x0 :: e, none :: e', h => by
    have h : KeepE ks e e' := by cases x0 <;> exact h
    obtain ⟨l, h3⟩ := h.at
    refine ⟨by simp [l], fun i x hx => ?_⟩
    cases i with
    | zero => simp at hx
    | succ i => exact h3 i x (by simpa using hx)
  | [], [], [], _ => ⟨rfl, fun i d h => by simp at h⟩
  | [], _ :: _, _, h => by cases h
  | [], [], _ :: _, h => by cases h
  | _ :: _, [], _, h => by cases h
  | _ :: _, none :: _, [], h => by cases h
  | _ :: _, some _ :: _, [], h => by cases h
  | _ :: _, none :: _, some _ :: _, h => by cases h
def compOk : List D → Bool
  | [] => true
  | d :: ds => (flat1 d || (match d with | .list ys => flat1s ys | _ => false)) && compOk ds
def CompR (y : D) : List D → List D → Prop
  | [], [] => True
  | d :: ds, d' :: ds' => (d' = d ∨ ∃ ys, d = .list ys ∧ d' = .list (ys ++ [y])) ∧ CompR y ds ds'
  | _, _ => False
def nxV (sp : Option Nat) (y : D) (e e' : En) (nx : En → Prop) : Prop := match sp with
  | none => nx e'
  | some i => e'[i]? = some none ∧ ∃ ds, e[i]? = some (some (.tuple ds)) ∧ compOk ds = true ∧ ∀ ds', CompR y ds ds' → nx (e'.set i (some (.tuple ds')))
def wMutV (κ : List SK) (sp : Option Nat) (wo b : WE) : WS := fun W e => wo e fun x e0 => e0 = e ∧ ∃ ys, x = .list ys ∧ flat1s ys = true ∧ b e0 fun y e1 => e1 = e0 ∧ flat1 y = true ∧ ys.length < lim ∧ ∃ e', KeepE κ e1 e' ∧ nxV sp y e1 e' W.nx
section
variable {K : PySem.W.Frag} {κ : List SK} {g : Rg} {env e' : En} {σ : St} {H : Hp} {M : List Nat} {a : Addr} {xs : List V} {ys : List D} {vy : V} {y : D}
/-- what is told in flat form, behind it -/
theorem offA {S : Addr → Prop} (hA : H a = some (.lst xs)) {o0 : HO} : ∀ b o, ¬ S b → H b = some o → (∀ zs, o ≠ .lst zs) → (upd H a o0) b = some o := fun b o _ e nl => by
  rw [upd_ne fun z => by rw [z, hA] at e; exact nl xs (Option.some.inj e).symm]
  exact e
theorem Frm.mutV (F : Frm K κ g env σ H) (na : ¬ g.own a) (hA : H a = some (.lst xs)) {o0 : HO} (ke : KeepE κ env e') : Frm K κ g e' σ (L2.upd H a o0) := by
  obtain ⟨hl, hk⟩ := ke.at
  have off := offA (S := g.own) hA (o0 := o0)
  have own : ∀ b, g.own b → g.own b ∨ H b = none := fun _ q => .inl q
  have nea : ∀ b, g.own b → b ≠ a := fun b q z => na (by rw [← z]; exact q)
  have at_ : ∀ b o, g.own b → H b = some o → (L2.upd H a o0) b = some o := fun b o q e => by rw [upd_ne (nea b q)]; exact e
  have ob : ∀ {b d} {ds : List D}, d = .list ds → flat1s ds = true → g.own b → Obj1 K H g.own b d → Obj1 K (L2.upd H a o0) g.own b d := fun {b d ds} ed hf q r => by
    cases r with
    | lst e z al => cases ed; exact .lst (at_ _ _ q e) z (al.keep1 off own hf)
    | dK => cases ed
    | dT => cases ed
  refine ⟨by rw [hl]; exact F.ln, F.sl, fun i d e => ?_, F.inj, fun i b e => ⟨(F.alo' i b e).1, (F.alo' i b e).2.of fun o q => at_ b o (.inr ⟨i, e⟩) q⟩, fun b q => (F.ot' b q).of fun o e => at_ b o (.inl q) e, F.il, fun b q => ⟨(F.pl b q).1, ?_⟩⟩
  · obtain ⟨e0, kp⟩ := hk i d e
    obtain ⟨v, e1, s⟩ := F.ev i d e0
    refine ⟨v, e1, ?_⟩
    cases hki : kindOf κ i <;> rw [hki] at s kp <;> unfold SlotK at s ⊢ <;> simp only at s ⊢
    · exact s
    · exact Rep.keep1 off own kp s
    · rcases s with s | ⟨b, rfl, np, hI, s⟩
      · exact .inl (Rep.keep1 off own kp s)
      · exfalso
        have kp : flat1 d = true := kp
        rcases flat1_cases kp with h | ⟨zs, rfl, _⟩
        · cases s <;> simp [flat0] at h
        · exact s.noXt
    · obtain ⟨b, rfl, eb, s⟩ := s
      cases d with
      | list ds => exact ⟨b, rfl, eb, ob rfl kp (.inr ⟨i, eb⟩) s⟩
      | _ => cases kp
    · obtain ⟨b, rfl, eb, s⟩ := s
      cases d with
      | list ds => exact ⟨b, rfl, eb, ob rfl kp (.inr ⟨i, eb⟩) s⟩
      | _ => cases kp
    · simp [keepV] at kp
    · obtain ⟨b, rfl, hp, ed⟩ := s
      exact ⟨b, rfl, hp, ed⟩
    · rcases s with ⟨b, rfl, eb, s⟩ | ⟨d', rfl, s⟩
      · cases d with
        | list ds => exact .inl ⟨b, rfl, eb, ob rfl kp (.inr ⟨i, eb⟩) s⟩
        | tuple ds => cases s
        | none => cases s
        | bool => cases s
        | int => cases s
        | str => cases s
        | dict => cases kp
      · exact .inr ⟨d', rfl, Rep.keep1 off own kp s⟩
  · obtain ⟨x, y, z, e⟩ := (F.pl b q).2
    exact ⟨x, y, z, at_ b _ (F.p_own q) e⟩
/-- a tuple with the list in it -/
theorem comp_rep (hA : H a = some (.lst xs)) {S : Addr → Prop} (hz : xs.length < sizeLine) (ry : Rep K H S vy y) (fy : flat1 y = true) : ∀ {ds : List D} {vs : List V}, compOk ds = true → RepAll K H S vs ds → ∃ ds', CompR y ds ds' ∧ RepAll K (upd H a (.lst (xs ++ [vy]))) S vs ds'
  | _, _, _, .nil => ⟨[], trivial, .nil⟩
  | d :: ds, v :: vs, h, .cons r t => by
    have off := offA (S := S) hA (o0 := .lst (xs ++ [vy]))
    simp only [compOk, Bool.and_eq_true, Bool.or_eq_true] at h
    obtain ⟨ds', h1, h2⟩ := comp_rep hA hz ry fy h.2 t
    by_cases hf : flat1 d = true
    · exact ⟨d :: ds', ⟨.inl rfl, h1⟩, .cons (r.keep1 off (fun _ q => .inl q) hf) h2⟩
    · have h3 := h.1.resolve_left hf
      cases r with
      | @lst b ws zs n e z al =>
        have h3 : flat1s zs = true := h3
        by_cases hb : b = a
        · subst hb
          rw [hA] at e
          cases e
          refine ⟨.list (zs ++ [y]) :: ds', ⟨.inr ⟨zs, rfl, rfl⟩, h1⟩, .cons (.lst n upd_same (by rw [List.length_append]; exact hz) ((al.keep1 off (fun _ q => .inl q) h3).append (.cons (ry.keep1 off (fun _ q => .inl q) fy) .nil))) h2⟩
        · exact ⟨.list zs :: ds', ⟨.inl rfl, h1⟩, .cons (.lst n (by rw [upd_ne hb]; exact e) z (al.keep1 off (fun _ q => .inl q) h3)) h2⟩
      | _ => cases h3
end
section
variable {X : Cx} {κ : List SK} {M : List Nat} {k : RK} {wo wb : WE} {o b : Expr} {apos cpos pos : Pos}
theorem ss_mutV (sp : Option Nat) (ho : SE X κ [] .fz o wo) (hb : SE X κ [] .fz b wb) (h9 : 999 ∈ M := by decide) (hk : ∀ i, sp = some i → kindOf κ i = .v := by intro i h; first | (cases h; done) | (cases h; rfl))
    (hbase : attributeBase o "append" X.env (eval o X.env) = eval o X.env := by rfl)
    (hfew : ((backTo cpos (starEach [b] X.env)).all (fun x => !x.1) && (backToKw cpos (keywordEach [] X.env)).all (fun x => x.1.isSome)
      && decide ([b].length + ([] : List Keyword).length + (if ([] : List Keyword).isEmpty then 0 else 1) < 30)) = true := by rfl)
    (hline : (apos.endLine == cpos.line) = true := by rfl) (hs : starEach [b] X.env = (false, eval b X.env) :: starEach [] X.env := by rfl) (hplain : (backTo cpos (starEach [] X.env)).any (·.1) = false := by rfl)
    (hsw : swapsWith (.Call (.Attribute o "append" apos) [b] [] cpos) none pos.line X.env = pure false := by rfl) :
    SS X κ M k (.Expr (.Call (.Attribute o "append" apos) [b] [] cpos) pos) (wMutV κ sp wo wb) :=
  SS.of (ps_expr (pe_bm (name := "append") PySem.F.plainAttrs_list PySem.F.slot_list_append PySem.F.type_list_append mt_append ho (pa_cons hb pa_nil hs) hbase hfew hline hs hplain) hsw) fun D σ H ⟨g, env, W, F, hw, n, bk, c, r⟩ =>
    ⟨g, env, _, F, hw, fun x H1 g1 e1 d1 F1 s1 r1 ⟨e01, ys, ed, fys, w1⟩ => by
      subst e01; subst ed
      have r1 : Rep X.K H1 g1.own x (.list ys) := r1
      cases r1 with
      | @lst a xs _ na hA z al =>
        refine ⟨.inl ⟨rfl, xs, .inl (.inl hA)⟩, g1, _, _, F1, w1, fun vy H2 g2 e2 y F2 s2 ry ⟨e12, fy, hl, e', ke, w2⟩ => ?_⟩
        subst e12
        have ry : Rep X.K H2 g2.own vy y := ry
        have s12 := s1.tr s2 F F1
        have r2 : Rep X.K H2 g2.own (.ref a) (.list ys) := Rep.keep (s2.off F1) s2.own (.lst na hA z al)
        cases r2 with
        | @lst _ xs2 _ na2 hA2 z2 al2 =>
          have hz : xs2.length < sizeLine := by rw [al2.length]; exact Nat.lt_of_lt_of_le hl (by rw [sizeLine_eq]; decide)
          refine ⟨a, xs2, vy, rfl, rfl, hA2, hz, ?_⟩
          have F3 := F2.mutV na2 hA2 (o0 := .lst (xs2 ++ [vy])) ke
          have st : ∀ {env2 : En} {σ2 : St}, Frm X.K κ g2 env2 σ2 (upd H2 a (.lst (xs2 ++ [vy]))) → SStep κ M g2 g2 H2 (upd H2 a (.lst (xs2 ++ [vy]))) := fun F4 =>
            ⟨fun _ q => q, fun _ q => .inl q, fun _ q => q, fun _ q => .inl q, fun _ _ q => .inl q, rfl, fun _ _ => rfl, fun b o e _ _ hv => by
              rw [upd_ne fun z => ?_]
              · exact e
              · rw [z, hA2] at e
                rcases hv h9 with q | q
                · exact na2 (.inl (by rw [← z]; exact q))
                · exact q xs2 (Option.some.inj e).symm, fun b nb => by
              by_cases hb : b = a
              · rw [hb, upd_same]; simp
              · rw [upd_ne hb]; exact nb, fun b q => (F4.pl b q).2⟩
          have s3 := ((s12.mono (M' := M) fun _ q => nomatch q).toS F F2).trans (st F3)
          cases sp with
          | none => exact n g2 _ σ _ F3 s3 w2
          | some i =>
            obtain ⟨hi, ds, ei, hc, w2⟩ := w2
            obtain ⟨v0, sv, sl⟩ := F2.ev i _ ei
            rw [hk i rfl] at sl
            have sl : Rep X.K H2 g2.own v0 (.tuple ds) := sl
            cases sl with
            | @tup b vs _ nb rT zT alT =>
              obtain ⟨ds', hR, alD⟩ := comp_rep hA2 hz ry fy hc alT
              have hbl : (upd H2 a (.lst (xs2 ++ [vy]))) b = H2 b := upd_ne fun z => by
                rcases rT with ⟨_, q⟩ | ⟨_, o, q, _⟩ <;> rw [z, hA2] at q <;> cases q
              have hT : RdT (upd H2 a (.lst (xs2 ++ [vy]))) b (.tup vs) ds' := by
                have hlen : ds'.length = ds.length := by rw [← alD.length, alT.length]
                have h0 : frzOk0 ds = true → frzOk0 ds' = true := by
                  cases ds with
                  | nil => cases ds' with
                    | nil => exact id
                    | cons => simp at hlen
                  | cons d ds => cases ds' with
                    | nil => simp at hlen
                    | cons d' ds' =>
                      intro h
                      obtain ⟨h1, _⟩ := hR
                      rcases h1 with rfl | ⟨zs, rfl, rfl⟩
                      · cases d' <;> first | rfl | cases h
                      · simp [frzOk0] at h
                rcases rT with ⟨p, q⟩ | ⟨p, o, q, dd⟩
                · exact .inl ⟨by unfold plOk at p ⊢; rw [hlen]; exact p, by rw [hbl]; exact q⟩
                · refine .inr ⟨?_, o, by rw [hbl]; exact q, dd⟩
                  unfold frzOk at p ⊢
                  rw [Bool.or_eq_true] at p ⊢
                  rw [hlen]
                  exact p.imp id h0
              have F4 : Frm X.K κ g2 (e'.set i (some (.tuple ds'))) (σ.set i (some (.ref b))) (upd H2 a (.lst (xs2 ++ [vy]))) := F3.set (by rw [hk i rfl]; exact .tup nb hT zT alD)
              have es : σ.set i (some (.ref b)) = σ := by
                refine List.ext_getElem? fun j => ?_
                by_cases hj : j = i
                · rw [hj, sv, List.getElem?_set_self (by rcases Nat.lt_or_ge i σ.length with h | h; exact h; rw [List.getElem?_eq_none h] at sv; cases sv)]
                · rw [List.getElem?_set_ne fun z => hj z.symm]
              rw [es] at F4
              exact n g2 _ σ _ F4 s3 (w2 _ hR)⟩
def SrcH (K : PySem.W.Frag) (a : Addr) (xs : List D) (g : Rg) (H : Hp) : Prop := flat1s xs = true ∧ g.O a ∧ ¬ g.P a ∧ ∃ vs, vs.length ≤ sizeLine ∧ RepAll K H g.own vs xs ∧ H a = some (.lst vs)
theorem srcH_holds {K : PySem.W.Frag} {a : Addr} {xs : List D} : Holds κ [] (SrcH K a xs) := fun K' M g g' env env' σ σ' H H' _ F F' s ⟨hf, hO, hP, vs, z, al, e⟩ => by
  refine ⟨hf, s.up a hO, (fun q => (s.pd a q).elim hP fun h => by rw [e] at h; cases h), vs, z, al.keep1 (fun b o n eb nl => s.keep b o eb (fun p => n (F.p_own p)) (fun i _ q => n (.inr ⟨i, q⟩)) fun _ => .inr nl) s.own hf, ?_⟩
  exact s.keep a _ e hP (fun i _ q => (F.alo i a q).1 hO) fun _ => .inl hO
theorem walk_h {K : PySem.W.Frag} {tb : Bool} {a : Addr} {xs : List D} : Walk K (Itl K a) tb xs (SrcH K a xs) where
  go := fun g H i ⟨_, _, _, vs, z, al, e⟩ _ hi => by
    obtain ⟨v, e2, _⟩ := al.get (List.getElem?_eq_getElem hi)
    exact ⟨vs, v, .inl (.inl e), e2⟩
  yd := fun g H i v H' ⟨_, _, _, vs, z, al, e⟩ _ hi ⟨e1, y⟩ => by
    subst e1
    obtain ⟨x, ex, r⟩ := al.getV (y vs (.inl (.inl e)))
    exact ⟨fun _ _ q => q, x, ex, .inl r⟩
  stop := fun g H ⟨_, _, _, vs, z, al, e⟩ => ⟨vs, .inl (.inl e), Nat.le_of_eq al.length⟩
  lenL := fun g H ⟨_, _, _, vs, z, al, e⟩ => by rw [← al.length]; exact z
def wiSeqH (a : WE) : WI := fun e Q => a e fun x e1 => ∃ xs, x = .list xs ∧ flat1s xs = true ∧ Q xs e1
theorem si_seqH {tg a : Expr} {w : WE} (ha : SE X κ M .nw a w) : SI X κ M [] tg a (wiSeqH w) :=
  SI.of (pi_seq ha) fun σ H R ⟨g, env, W, F, hw, post⟩ => ⟨g, env, _, F, hw, fun v H1 g1 e1 d F1 s1 ⟨p, ep, n, hO, hP, ob⟩ ⟨xs, ex, hf, w1⟩ => by
    subst ex; subst ep
    cases ob with
    | lst e z al => exact ⟨p, rfl, .inl ⟨_, .inl (.inl e), post _ H1 g1 e1 xs _ F1 s1 ⟨hf, hO, hP, _, z, al, e⟩ srcH_holds walk_h w1⟩⟩⟩
end
end G7

set_option maxRecDepth 100000
namespace G7
open PySem PySem.Spec PyProof.Rows L2
/-- a raised exception of a class, told in an answer's place; no value is told so -/
def exD (cn : Str) : D := .dict [(.none, .str cn)]
def wRaise (cn : Str) : WS := fun W e => W.rt (exD cn) e
def cSX (K : PySem.W.Frag) (mg : Str → Option Value) (κ : List SK) (M : List Nat) (k : RK) (Wx : WX) (w : WS) : TS := fun D σ H => ∃ g env W, Frm K κ g env σ H ∧ w W env ∧
  (∀ g' env' σ' H', Frm K κ g' env' σ' H' → SStep κ M g g' H H' → W.nx env' → D.nx σ' H') ∧
  (∀ g' env' σ' H', Frm K κ g' env' σ' H' → SStep κ M g g' H H' → W.bk env' → D.bk σ' H') ∧
  (∀ g' env' σ' H', Frm K κ g' env' σ' H' → SStep κ M g g' H H' → W.ct env' → D.ct σ' H') ∧
  (∀ g' env' σ' H' v d, Frm K κ g' env' σ' H' → SStep κ M g g' H H' → ResR K κ k g H H' v d → W.rt d env' → D.rt v H') ∧
  (∀ g' env' σ' H' cn C, Frm K κ g' env' σ' H' → SStep κ M g g' H H' → W.rt (exD cn) env' → mg cn = some (.ref C) → Wx (.ref C) none σ' H')
def SSX (X : Cx) (Wx : WX) (κ : List SK) (M : List Nat) (k : RK) (st : Stmt) (w : WS) : Prop := PS X st (cSX X.K X.mg κ M k Wx w)
def SSsX (X : Cx) (Wx : WX) (κ : List SK) (M : List Nat) (k : RK) (st : List Stmt) (w : WS) : Prop := PSs X st (cSX X.K X.mg κ M k Wx w)
section
variable {X : Cx} {Wx : WX} {κ : List SK} {M Me : List Nat} {k ke : RK} {st : Stmt} {sts : List Stmt} {e : Expr} {w wa : WE} {s t : WS} {pos : Pos}
theorem SSX.of {t' : TS} (h : PS X st t') (i : ∀ D σ H, cSX X.K X.mg κ M k Wx s D σ H → t' D σ H) : SSX X Wx κ M k st s := ⟨fun pins s0 σ H D I q => h.run pins s0 σ H D I (i D σ H q)⟩
theorem SSsX.of {t' : TS} (h : PSs X sts t') (i : ∀ D σ H, cSX X.K X.mg κ M k Wx s D σ H → t' D σ H) : SSsX X Wx κ M k sts s := ⟨fun pins s0 σ H D I q => h.run pins s0 σ H D I (i D σ H q)⟩
/-- what does not raise -/
theorem SSsX.thru (h : SSs X.nox κ M k sts s) : SSsX X Wx κ M k sts s :=
  SSsX.of (PSs.nox h) fun D σ H ⟨g, env, W, F, hw, n, b, c, r, _⟩ => ⟨g, env, W, F, hw, n, b, c, r⟩
theorem cSX.go {K : PySem.W.Frag} {mg : Str → Option Value} {g g1 : Rg} {env1 : En} {σ1 : St} {H H1 : Hp} {W1 : WD} (F1 : Frm K κ g1 env1 σ1 H1) (s1 : SStep κ M g g1 H H1) (hw : s W1 env1) {D' : Ends}
    (n : ∀ g' env' σ' H', Frm K κ g' env' σ' H' → SStep κ M g g' H H' → W1.nx env' → D'.nx σ' H') (b : ∀ g' env' σ' H', Frm K κ g' env' σ' H' → SStep κ M g g' H H' → W1.bk env' → D'.bk σ' H')
    (c : ∀ g' env' σ' H', Frm K κ g' env' σ' H' → SStep κ M g g' H H' → W1.ct env' → D'.ct σ' H') (r : ∀ g' env' σ' H' v d, Frm K κ g' env' σ' H' → SStep κ M g g' H H' → ResR K κ k g H H' v d → W1.rt d env' → D'.rt v H')
    (x : ∀ g' env' σ' H' cn C, Frm K κ g' env' σ' H' → SStep κ M g g' H H' → W1.rt (exD cn) env' → mg cn = some (.ref C) → Wx (.ref C) none σ' H') : cSX K mg κ M k Wx s D' σ1 H1 :=
  ⟨g1, env1, W1, F1, hw, fun g' env' σ' H' F' s' => n g' env' σ' H' F' (s1.trans s'), fun g' env' σ' H' F' s' => b g' env' σ' H' F' (s1.trans s'), fun g' env' σ' H' F' s' => c g' env' σ' H' F' (s1.trans s'),
    fun g' env' σ' H' v d F' s' rr => r g' env' σ' H' v d F' (s1.trans s') (rr.back s1), fun g' env' σ' H' cn C F' s' => x g' env' σ' H' cn C F' (s1.trans s')⟩
theorem sssx_cons (h1 : SSX X Wx κ M k st s) (h2 : SSsX X Wx κ M k sts t) : SSsX X Wx κ M k (st :: sts) (wSeq s t) :=
  SSsX.of (pss_cons h1 h2) fun D σ H ⟨g, env, W, F, hw, n, b, c, r, x⟩ => ⟨g, env, _, F, hw, fun g' env' σ' H' F' s' w' => cSX.go (K := X.K) (g := g) (H := H) (W1 := W) (D' := D) F' s' w' n b c r x, b, c, r, x⟩
theorem sssx_one (h1 : SSX X Wx κ M k st s) : SSsX X Wx κ M k [st] s := SSsX.of (pss_one h1) fun _ _ _ q => q
theorem sssx_nil : SSsX X Wx κ M k [] wNil := SSsX.of pss_nil fun D σ H ⟨g, env, W, F, hw, n, _⟩ => n g env σ H F (.refl F) hw
theorem ssx_if {c : Expr} {a b : List Stmt} {wt : WT} (hc : ST X.nox κ Me c wt) (ha : SSsX X Wx κ M k a s) (hb : SSsX X Wx κ M k b t) (sub : ∀ i ∈ Me, i ∈ M := by decide) : SSX X Wx κ M k (.If c a b pos) (wIf wt s t) :=
  SSX.of (ps_if (PT.nox hc) ha hb) fun D σ H ⟨g, env, W, F, hw, n, b, c, r, x⟩ => ⟨g, env, _, F, hw, fun y H1 g1 e1 F1 s1 w1 => by
    have s1' := (s1.mono sub).toS F F1
    cases y with
    | true => exact cSX.go (K := X.K) (g := g) (H := H) (W1 := W) (D' := D) F1 s1' w1 n b c r x
    | false => exact cSX.go (K := X.K) (g := g) (H := H) (W1 := W) (D' := D) F1 s1' w1 n b c r x⟩
/-- raise X('..') -/
theorem ssx_raise {C : Addr} {cn : Str} {e : Expr} (hc : X.calm = true) (tk : Takes X Wx) (he : PMk X e (fun _ H Q => Q (.ref C) none H)) (hm : X.mg cn = some (.ref C)) : SSX X Wx κ M k (.Raise (some e) none pos) (wRaise cn) :=
  SSX.of (ps_raise hc tk he) fun D σ H ⟨g, env, W, F, hw, n, b, c, r, x⟩ => x g env σ H cn C F (.refl F) hw hm
theorem PA.nox {es : List Expr} {t : TA} (h : PA X.nox es t) : PA X es t := ⟨fun p pins s σ H Q I hw =>
  wpAny_mono (h.run p pins s σ H Q (I.wish _) hw) (fun _ _ ⟨v, H', I', r, q⟩ => ⟨v, H', I'.unwish, r, q⟩) fun _ _ z => False.elim z⟩
def cEX (K : PySem.W.Frag) (mg : Str → Option Value) (κ : List SK) (M : List Nat) (k : RK) (Wx : WX) (w : WE) : TE := fun σ H Q => ∃ g env W, Frm K κ g env σ H ∧ w env W ∧
  (∀ v H' g' env' d, Frm K κ g' env' σ H' → EStep M g g' H H' → Res K g' k H H' v d → W d env' → Q v H') ∧
  (∀ H' g' env' cn C, Frm K κ g' env' σ H' → EStep M g g' H H' → W (exD cn) env' → mg cn = some (.ref C) → Wx (.ref C) none σ H')
def SEX (X : Cx) (Wx : WX) (κ : List SK) (M : List Nat) (k : RK) (e : Expr) (w : WE) : Prop := PE X e (cEX X.K X.mg κ M k Wx w)
theorem SEX.of {t : TE} (h : PE X e t) (s : ∀ σ H Q, cEX X.K X.mg κ M k Wx w σ H Q → t σ H Q) : SEX X Wx κ M k e w := ⟨fun pins s0 σ H Q I q => h.run pins s0 σ H Q I (s σ H Q q)⟩
/-- the promise of a def that may raise -/
def spOfX (K : PySem.W.Frag) (mg : Str → Option Value) (ms : List PM) (k : RK) (S : FS) : Sp := fun vs H Q E => ∃ (O P : Addr → Prop) (ds : List D) (Post : D → Prop),
  (∀ a, O a → Tk H a) ∧ (∀ a, P a → O a ∧ Pool H a) ∧ ArgsOk K H O P ms vs ds ∧ S ds Post ∧
  (∀ v H' d, Post d → (∀ b o, H b = some o → ¬ P b → H' b = some o) → (∀ b, P b → Pool H' b) → ResC K k H H' O v d → Q v H') ∧
  (∀ cn C H', Post (exD cn) → mg cn = some (.ref C) → (∀ b o, H b = some o → ¬ P b → H' b = some o) → (∀ b, P b → Pool H' b) → E (.ref C) none H')
theorem sex_call {lv : Nat} {f : Addr} {fd : FuncData} {ps : List Str} {ms : List PM} {S : FS} {x : Str} {p : Pos} {e : Expr} {es : List Expr} {ks : List RK} {wl : WA} (F : FnOk X.prog X.w X.K X.mg X.base (L2.CX X.prog X.w) lv f fd ps (spOfX X.K X.mg ms k S)) (tk : Takes X Wx) (hr : Room lv X.A) (hg : Gl X x) (hm : X.mg x = some (.ref f))
    (hk : PySem.W.keepIn X.K (.ref f) = true) (hb : Binds X.K fd ps []) (ha : SA X.nox κ M ks (e :: es) wl) (hp : passA ks ms = true := by rfl) (kk : k = .fz ∨ k = .nw := by first | exact .inl rfl | exact .inr rfl) (hdb : (x == ("__debug__" : Str)) = false := by decide)
    (he : starEach (e :: es) X.env = (false, eval e X.env) :: starEach es X.env := by rfl) (hpl : (backTo pos (starEach es X.env)).any (·.1) = false := by rfl) : SEX X Wx κ M k (.Call (.Name x p) (e :: es) [] pos) (wCall S wl) :=
  SEX.of (pe_callS F hr hg hm hk hb (fun σ => passAt tk σ) (PA.nox ha) hdb he hpl) fun σ H Q ⟨g, env, W, Fr0, hw, post, px⟩ => ⟨g, env, _, Fr0, hw, fun vs H1 g1 e1 ds F1 s1 r1 w1 => by
    refine ⟨g1.own, g1.P, ds, _, fun a q => F1.own_tk q, fun a q => ⟨F1.p_own q, (F1.pl a q).2⟩, r1.args F1 hp, w1, fun v H2 d wd kp pl rc => ?_, fun cn C H2 wd hC kp pl => ?_⟩
    · obtain ⟨g2, F2, s2, r2⟩ := ResC.back F1 kk kp pl rc
      exact post v H2 g2 e1 d F2 (s1.tr (s2.mono fun _ q => nomatch q) Fr0 F1) (r2.back fun p q => s1.there Fr0 F1 q) wd
    · obtain ⟨g2, F2, s2, r2⟩ := ResC.back (k := .fz) (v := .non) (d := .none) F1 (.inl rfl) kp pl .non
      exact px H2 g2 e1 cn C F2 (s1.tr (s2.mono fun _ q => nomatch q) Fr0 F1) wd hC⟩
theorem kD_some (k : Key) : kD k ≠ .none := by cases k <;> simp [kD]
theorem Rep.noEx {K : PySem.W.Frag} {H : Hp} {S : Addr → Prop} {v : V} {cn : Str} (r : Rep K H S v (exD cn)) : False := by
  unfold exD at r
  generalize hd : PyData.dict [(.none, .str cn)] = d at r
  cases r with
  | @dK a kvs ds n h al =>
    cases kvs with
    | nil => simp at hd
    | cons q kvs =>
      cases ds with
      | nil => simp at hd
      | cons y ds =>
        simp only [List.map_cons, List.zip_cons_cons, PyData.dict.injEq, List.cons.injEq, Prod.mk.injEq] at hd
        exact kD_some _ hd.1.1.symm
  | dT n h al => simp at hd
  | xt n r e z al => simp at hd
  | _ => cases hd
end
section
variable {P : Program} {w : World} {K : PySem.W.Frag} {mg : Str → Option Value} {base : Heap}
/-- a def that may raise, by its body -/
theorem fn_defX {x qual : Str} {st : Stmt} {f : Addr} {fd : FuncData} {N ps : List Str} {lv : Nat} {κ : List SK} {M : List Nat} {rk : RK} {S : FS} {wb : WS} (ms : List PM) (F : Fun K x qual st f fd) (Sc : FnScope N ps (defScope st)) (hκ : κ.length = N.length) (hms : ms.length = ps.length)
    (hp : κ.take ms.length = ms.map skOf) (hr : rk = .fz ∨ rk = .nw) (hq : ∀ i, kindOf κ i ≠ .q)
    (body : ∀ (cdv : Value) (A : Around) (outer : List Env) (s : Shared) (H : Hp) (E : XK), Room lv (A.deeper (envOfC qual (defScope st) s.heap.objs.size f cdv)) →
      SSsX (cxOf (L2.CX P w) P w K mg base N qual (defScope st) f cdv A outer s H E) (fun cls d _ H' => E cls d H') κ M rk (defBody st) wb)
    (math : ∀ ds Post, S ds Post → wb { nx := fun _ => Post .none ∧ rk = .fz, rt := fun d _ => Post d } (startE N.length ds)) (hv : 999 ∉ M := by decide) :
    FnOk P w K mg base (L2.CX P w) (lv + 1) f fd ps (spOfX K mg ms rk S) := by
  refine F.okX Sc (fun vs H Q E h => ?_) fun cdv A outer s H vs Q E hroom h => ?_
  · obtain ⟨O, P', ds, Post, _, _, ha, _⟩ := h
    rw [ha.len.1, hms]
  · obtain ⟨O, P', ds, Post, hO, hP, ha, hS, k, kx⟩ := h
    refine ⟨_, body cdv A outer s H E hroom, ?_⟩
    have hl := ha.len
    have hle : ps.length ≤ N.length := by
      have := congrArg List.length Sc.pre
      rw [List.length_take] at this; omega
    have Fr0 : Frm K κ ⟨O, P', O, fun _ => none⟩ (startE N.length ds) (L2.start N vs) H := by
      refine ⟨by simp [startE, hκ]; omega, by simp [L2.start, hκ]; omega, fun i d e => ?_, fun i j a (e : none = some a) => (nomatch e), fun i a (e : none = some a) => (nomatch e), hO, fun _ q => q, hP⟩
      unfold startE at e
      by_cases hi : i < ds.length
      · rw [List.getElem?_append_left (by simpa using hi)] at e
        rw [List.getElem?_map] at e
        cases q : ds[i]? with
        | none => rw [q] at e; cases e
        | some d' =>
          rw [q] at e
          have e' : d' = d := by simpa using e
          subst e'
          obtain ⟨v, m, h1, h2, h3⟩ := args_slot ha q
          refine ⟨v, ?_, ?_⟩
          · unfold L2.start
            rw [List.getElem?_append_left (by rw [List.length_map]; exact (List.getElem?_eq_some_iff.mp h1).1), List.getElem?_map, h1]
            rfl
          · have hk : kindOf κ i = skOf m := by
              unfold kindOf
              have : (κ.take ms.length)[i]? = some (skOf m) := by rw [hp, List.getElem?_map, h2]; rfl
              rw [List.getElem?_take] at this
              split at this
              · rw [this]; rfl
              · cases this
            rw [hk]
            have own : ∀ a, Rg.own ⟨O, P', O, fun _ => none⟩ a → O a := fun a q => q.elim id fun ⟨_, (e : none = some a)⟩ => nomatch e
            have up : ∀ {v d}, Rep K H O v d → Rep K H (Rg.own ⟨O, P', O, fun _ => none⟩) v d := fun r => r.keep (fun _ _ _ q => q) fun a q => .inl (own a q)
            cases m with
            | fz => exact up h3
            | rd =>
              rcases h3 with h3 | ⟨a, e1, np, ho, r⟩
              · exact .inl (up h3)
              · exact .inr ⟨a, e1, np, ho, r.keep (fun _ q => q) (fun _ _ _ q => q) fun a q => .inl (own a q)⟩
            | pl => exact h3
      · rw [List.getElem?_append_right (by simpa using hi)] at e
        rw [List.getElem?_replicate] at e
        split at e <;> cases e
    have nb : ∀ a, baseO κ ⟨O, P', O, fun _ => none⟩ a → O a := fun a q => q.elim id fun ⟨i, hk, _⟩ => absurd hk (hq i)
    have ob : ∀ a, O a → baseO κ ⟨O, P', O, fun _ => none⟩ a := fun a q => .inl q
    have fin : ∀ {g' : Rg} {env' : En} {σ' : St} {H' : Hp} {v : V} {d : D}, Frm K κ g' env' σ' H' → SStep κ M ⟨O, P', O, fun _ => none⟩ g' H H' → ResR K κ rk ⟨O, P', O, fun _ => none⟩ H H' v d → Post d → Q v H' := by
      intro g' env' σ' H' v d F' s' r pd
      refine k v H' d pd (fun b o e np => s'.keep b o e np (fun _ _ (z : none = some b) => nomatch z) fun h => absurd h hv) (fun b p => s'.pool b p) ?_
      rcases hr with e | e <;> subst e
      · exact Rep.keep (fun _ _ _ q => q) (fun a q => .inl (ob a q)) r
      · obtain ⟨p, e1, n, r⟩ := r
        have n' : H p = none := n.elim id fun ⟨_, _, (z : none = some p)⟩ => nomatch z
        exact ⟨p, e1, n', r.keep (fun _ q => q) (fun _ _ _ q => q) fun a (q : O a ∨ a = p) => .inl (q.imp (ob a) id)⟩
    exact ⟨⟨O, P', O, fun _ => none⟩, startE N.length ds, _, Fr0, math ds Post hS, fun g' env' σ' H' F' s' ⟨pd, er⟩ => fin F' s' (by subst er; exact .non) pd, fun _ _ _ _ _ _ q => q.elim, fun _ _ _ _ _ _ q => q.elim,
      fun g' env' σ' H' v d F' s' r pd => fin F' s' r pd, fun g' env' σ' H' cn C F' s' pd hC => kx cn C H' pd hC (fun b o e np => s'.keep b o e np (fun _ _ (z : none = some b) => nomatch z) fun h => absurd h hv) (fun b p => s'.pool b p)⟩
end
section
variable {X : Cx} {κ : List SK} {M : List Nat}
theorem takes_no {X : Cx} : Takes X.nox (fun _ _ _ _ => False) := fun u s' ⟨_, _, _, _, _, _, _, _, _, _, _, _, _, _, _, _, h⟩ => h.elim
end
def rIsET (K : PySem.W.Frag) (D a : Addr) : List V → Hp → VK → Prop := fun xs H Q => ∃ (tp : Addr) (cs : List V) (us : List Value) (b : Bool), xs = [.ref a, .ref tp] ∧ H tp = some (.tup cs) ∧ (∀ its, Vals cs its → its = us) ∧ PySem.W.kitAny K (.ref D) us = some b ∧ Q (.bl b) H
theorem call_isET {X : Cx} {a D : Addr} {oe : Obj} {pn : List (Addr × Obj)} (C : ExcC X.K D) (hz : Zc (.ref D) none oe) (hf : ∃ vs, oe.data = .fields vs) : CallR (X.suite a ((a, oe) :: pn)) (.builtin "isinstance") (rIsET X.K D a) := by
  intro pins s σ H xs ws Q I r h
  obtain ⟨tp, cs, us, b, rfl, hT, hcs, ek, q⟩ := h
  obtain ⟨u1, u2, rfl, r1, r2⟩ := vals2 r
  cases (show u2 = Value.ref tp from r2)
  cases r1
  obtain ⟨hget, _⟩ := I.pin (a, oe) (List.mem_append.mpr (.inl List.mem_cons_self))
  obtain ⟨vs, hv⟩ := hf
  have J : PySem.W.InstAt s.heap a oe D none := by
    obtain ⟨o1, o2, o3, o4⟩ := oe
    obtain ⟨z1, z2⟩ := hz
    dsimp only at z1 z2 hv
    subst z1 z2 hv
    exact ⟨hget, rfl, rfl, trivial⟩
  obtain ⟨_, its, rv, ot, t1, t2, m, t3⟩ := (show ObjOk X.prog X.w H s.heap tp (.tup cs) from I.hok tp _ hT)
  have ei := hcs its rv
  subst ei
  obtain ⟨pc, pd, pdt, psl⟩ := ot
  simp only at t2 t3
  subst t2 t3
  exact PySem.W.kia_tup (PySem.W.handS_kitx_exc C.hg C.hk C.hs C.hd C.ha C.hn C.ht C.hm) I.kIn J t1 ek (fun z => nomatch z) fun tk => ⟨.bl b, H, I.kept (t' := tk) fun _ _ z => z, rfl, q⟩
end G7

set_option maxRecDepth 100000
namespace G7
open PySem PySem.Spec PyProof.Rows L2
section
variable {K : PySem.W.Frag} {κ : List SK} {g g' : Rg} {env env' : En} {σ : St} {H H' : Hp} {M : List Nat} {i j : Nat} {v : V} {d : D} {k : RK} {x : SK} {a : Addr}
theorem kind_lt' (hl : i < κ.length) : kindOf (κ.set i x) i = x := by
  unfold kindOf
  rw [List.getElem?_set_self hl]; rfl
/-- the slot holds the caught exception -/
theorem Frm.setX (F : Frm K κ g env σ H) (hl : i < κ.length) (cn : Str) : Frm K (κ.set i (.x a)) g (env.set i (some (exD cn))) (σ.set i (some (.ref a))) H := by
  refine ⟨by simp [F.ln], by simp [F.sl], fun j d e => ?_, F.inj, F.alo', F.ot', F.il, F.pl⟩
  by_cases hj : j = i
  · subst hj
    refine ⟨.ref a, List.getElem?_set_self (by rw [F.sl]; exact hl), ?_⟩
    rw [kind_lt' hl]
    exact rfl
  · rw [List.getElem?_set_ne fun c => hj c.symm] at e
    obtain ⟨v', e1, s'⟩ := F.ev j d e
    exact ⟨v', by rw [List.getElem?_set_ne fun c => hj c.symm]; exact e1, by rw [kind_ne hj]; exact s'⟩
theorem Frm.offX (F : Frm K (κ.set i (.x a)) g env σ H) : Frm K κ g (env.set i none) (σ.set i none) H := by
  refine ⟨by rw [List.length_set, F.ln, List.length_set], by rw [List.length_set, F.sl, List.length_set], fun j d e => ?_, F.inj, F.alo', F.ot', F.il, F.pl⟩
  by_cases hj : j = i
  · subst hj
    by_cases hl : j < env.length
    · rw [List.getElem?_set_self hl] at e; cases e
    · rw [List.getElem?_eq_none (by simpa using hl)] at e; cases e
  · rw [List.getElem?_set_ne fun c => hj c.symm] at e
    obtain ⟨v', e1, s'⟩ := F.ev j d e
    rw [kind_ne hj] at s'
    exact ⟨v', by rw [List.getElem?_set_ne fun c => hj c.symm]; exact e1, s'⟩
theorem SStep.kindX (h : SStep (κ.set i (.x a)) M g g' H H') (hk : kindOf κ i = .v) : SStep κ M g g' H H' := by
  have kk : ∀ j, (kindOf (κ.set i (.x a)) j = .o ∨ kindOf (κ.set i (.x a)) j = .f) → (kindOf κ j = .o ∨ kindOf κ j = .f) := fun j kj => by
    by_cases c : j = i
    · exfalso
      rw [c] at kj
      unfold kindOf at kj
      by_cases hl : i < κ.length
      · rw [List.getElem?_set_self hl] at kj; rcases kj with kj | kj <;> cases kj
      · rw [List.getElem?_eq_none (by rw [List.length_set]; omega)] at kj; rcases kj with kj | kj <;> cases kj
    · rw [kind_ne c] at kj; exact kj
  refine ⟨h.pu, h.pd, h.up, h.dn, fun b e a => (h.al b e a).imp id (Or.imp (fun ⟨j, hj, kj, z⟩ => ⟨j, hj, kk j kj, z⟩) id), h.I, fun j q => h.qs j ?_, h.keep, h.th, h.pool⟩
  rw [kind_ne fun c => by rw [c, hk] at q; exact absurd q (by decide)]
  exact q
theorem ResR.kindX (r : ResR K (κ.set i (.x a)) k g H H' v d) (hk : kindOf κ i = .v) (hl : i < κ.length) : ResR K κ k g H H' v d := by
  have hb : ∀ b, baseO κ g b → baseO (κ.set i (.x a)) g b := fun b q => q.imp id fun ⟨j, hj, e⟩ => ⟨j, by rw [kind_ne fun c => by rw [c, hk] at hj; cases hj]; exact hj, e⟩
  have less : ∀ {v d}, Rep K H' (baseO (κ.set i (.x a)) g) v d → Rep K H' (baseO κ g) v d := fun r => r.keep (fun _ _ _ q => q) fun b q => .inl (hb b q)
  cases k with
  | nw =>
    obtain ⟨p, rfl, n, r⟩ := r
    refine ⟨p, rfl, n.imp id fun ⟨j, hj, e⟩ => ⟨j, ?_, e⟩, r.keep (fun _ q => q) (fun _ _ _ q => q) fun b q => .inl (q.imp (hb b) id)⟩
    by_cases c : j = i
    · subst c
      rw [kind_lt' hl] at hj
      rcases hj with hj | hj <;> cases hj
    · rw [kind_ne c] at hj; exact hj
  | fz => exact less r
  | rd => exact less r
  | ow i => exact less r
  | pl => exact less r
  | np => exact less r
end
/-- the suite by the class that came -/
def tryCase : List (Str × WS) → Str → WD → En → Prop
  | [], _, _, _ => False
  | (n, ws) :: r, cn, W, e => (cn = n ∧ ws W e) ∨ tryCase r cn W e
def wTryX (i : Nat) (cs : List (Str × WS)) (wb : WS) : WS := fun W e => wb { W with rt := fun d e1 => (∀ cn, d = exD cn → tryCase cs cn { nx := fun e2 => W.nx (e2.set i none), rt := fun d e2 => W.rt d (e2.set i none), bk := fun e2 => W.bk (e2.set i none), ct := fun e2 => W.ct (e2.set i none) } (e1.set i (some (exD cn)))) ∧ ((∀ cn, d ≠ exD cn) → W.rt d e1) } e
def allC (P : Str → Addr → WS → Prop) : List (Str × Addr × WS) → Prop
  | [] => True
  | (n, C, ws) :: r => P n C ws ∧ allC P r
theorem tryCase_mem {P : Str → Addr → WS → Prop} : ∀ {L : List (Str × Addr × WS)} {cn : Str} {W : WD} {e : En}, tryCase (L.map fun t => (t.1, t.2.2)) cn W e → allC P L → ∃ p : Str × Addr × WS, P p.1 p.2.1 p.2.2 ∧ p.1 = cn ∧ p.2.2 W e
  | [], _, _, _, h, _ => h.elim
  | (n, C, ws) :: r, cn, W, e, h, hP => by
    rcases h with ⟨h1, h2⟩ | h
    · exact ⟨(n, C, ws), hP.1, h1.symm, h2⟩
    · exact tryCase_mem h hP.2
section
variable {X : Cx} {κ : List SK} {M : List Nat} {k : RK}
theorem ss_tryX {x n : Str} {c : Value} {i : Nat} {body suite : List Stmt} {b₀ : Stmt} {np pos pos' : Pos} {wb : WS} (L : List (Str × Addr × WS)) (hs : X.stack = X.env :: X.outer) (hf : X.env.frame = some X.env.locals) (hN : X.N.Nodup) (hi : X.N[i]? = some n) (hln : X.env.kindOf n = some .local) (hc : Names X.nox x c) (hk : kindOf κ i = .v) (hl : i < κ.length)
    (hL : allC (fun cn C ws => X.mg cn = some (.ref C) ∧ PySem.W.exmOne X.K (.ref C) c = some true ∧
      ∀ (a : Addr) (oe : Obj) (pn : List (Addr × Obj)), Zc (.ref C) none oe → (∃ vs, oe.data = .fields vs) → SSs (X.nox.suite a ((a, oe) :: pn)) (κ.set i (.x a)) M k (b₀ :: suite) ws) L)
    (hb : ∀ (W : WX) (pn : List (Addr × Obj)) (xe : Value → Shared → Prop), Takes (X.nox.tr pn xe) W → SSsX (X.nox.tr pn xe) W κ M k body wb) :
    SS X.nox κ M k (.Try body [.ExceptHandler (some (.Name x np)) (some n) (b₀ :: suite) pos'] [] [] pos) (wTryX i (L.map fun t => (t.1, t.2.2)) wb) := by
  refine SS.of (ps_try_as (X := X.nox) (i := i) (tb := fun W => cSX X.K X.mg κ M k W wb) (ts := fun a clsv d D σ H => ∃ p : Str × Addr × WS, (∀ (a : Addr) (oe : Obj) (pn : List (Addr × Obj)), Zc (.ref p.2.1) none oe → (∃ vs, oe.data = .fields vs) → SSs (X.nox.suite a ((a, oe) :: pn)) (κ.set i (.x a)) M k (b₀ :: suite) p.2.2) ∧ clsv = .ref p.2.1 ∧ d = none ∧ cS X.K (κ.set i (.x a)) M k p.2.2 D σ H) hs hf hN hi hln hc takes_no
    (fun W pn xe tk _ => hb W pn xe tk) fun a oe clsv d pn hz hd => ⟨fun pins s σ H D I ⟨p, hp, e1, e2, q⟩ => ?_⟩) fun D σ H ⟨g, env, W, F, hw, nn, bb, cc, rr⟩ => ?_
  · subst e1; subst e2
    exact (hp a oe pn hz hd).run pins s σ H D I q
  · refine ⟨g, env, _, F, hw, nn, bb, cc, fun g' env' σ' H' v d F' s' r w' => rr g' env' σ' H' v d F' s' r (w'.2 fun cn e => ?_), fun g' env' σ' H' cn C F' s' w' hC => ?_⟩
    · subst e
      have r' : ∃ S, Rep X.K H' S v (exD cn) ∨ ∃ p, Obj1 X.K H' S p (exD cn) := by
        cases k with
        | nw => obtain ⟨p, _, _, r⟩ := r; exact ⟨_, .inr ⟨p, r⟩⟩
        | fz => exact ⟨_, .inl r⟩
        | rd => exact ⟨_, .inl r⟩
        | ow i => exact ⟨_, .inl r⟩
        | pl => exact ⟨_, .inl r⟩
        | np => exact ⟨_, .inl r⟩
      obtain ⟨S, r' | ⟨p, r'⟩⟩ := r'
      · exact Rep.noEx r'
      · exact Rep.noEx (S := fun _ => False) ((r'.keep (S' := fun _ => False) (fun _ q => q) (fun _ _ _ q => q) fun _ q => q.elim).rep fun q => q)
    · obtain ⟨p, ⟨hm, hx, hsu⟩, e1, w2⟩ := tryCase_mem (w'.1 cn rfl) hL
      subst e1
      rw [hC] at hm
      cases hm
      refine ⟨true, hx, fun _ a na => ⟨p, hsu, rfl, rfl, ?_⟩, fun z => nomatch z⟩
      exact ⟨g', _, _, F'.setX hl p.1, w2, fun g2 e2 σ2 H2 F2 s2 q => nn g2 _ _ H2 F2.offX (s'.trans (s2.kindX hk)) q, fun g2 e2 σ2 H2 F2 s2 q => bb g2 _ _ H2 F2.offX (s'.trans (s2.kindX hk)) q,
        fun g2 e2 σ2 H2 F2 s2 q => cc g2 _ _ H2 F2.offX (s'.trans (s2.kindX hk)) q, fun g2 e2 σ2 H2 v d F2 s2 r q => rr g2 _ _ H2 v d F2.offX (s'.trans (s2.kindX hk)) ((r.kindX hk hl).back s') q⟩
end
/-- a class told in isinstance's second place -/
inductive CA (X : Cx) : Expr → V → Value → Prop
  | own {x : Str} {pos : Pos} {C : Addr} : Gl X x → X.mg x = some (.ref C) → (x == ("__debug__" : Str)) = false → CA X (.Name x pos) (.ref C) (.ref C)
  | blt {x : Str} {pos : Pos} {T : String} : Gl X x → X.mg x = none → bootBuiltins x = some (.type T) → x ≠ "__name__" → (x == ("__debug__" : Str)) = false → CA X (.Name x pos) (.ty T) (.type T)
theorem CA.pe {X : Cx} {e : Expr} {c : V} {cv : Value} (h : CA X e c cv) : PE X e (tC c) := by
  cases h with
  | own h1 h2 h3 => exact pe_glob h1 h2 rfl h3
  | blt h1 h2 h3 h4 h5 => exact pe_bltn h1 h2 h3 rfl h4 h5
theorem CA.rel {X : Cx} {e : Expr} {c : V} {cv : Value} (h : CA X e c cv) {u : Value} (r : RelV c u) : u = cv := by
  cases h with
  | own => exact r
  | blt => exact r
def wIsE (i : Nat) (b : Bool) : WE := fun e Q => (∃ d, e[i]? = some (some d)) ∧ Q (.bool b) e
section
variable {X : Cx} {κ : List SK} {M : List Nat} {a C : Addr} {oe : Obj} {pn : List (Addr × Obj)} {i : Nat} {n : Str} {p p1 pos p2 : Pos}
theorem slotX {K : PySem.W.Frag} {g : Rg} {env : En} {σ : St} {H : Hp} (F : Frm K κ g env σ H) (hk : kindOf κ i = .x a) {d : D} (e : env[i]? = some (some d)) : σ[i]? = some (some (.ref a)) := by
  obtain ⟨v, e1, s⟩ := F.ev i d e
  rw [hk] at s
  have : v = .ref a := s
  rw [e1, this]
theorem se_isE {e2 : Expr} {c : V} {cv : Value} (b : Bool) (EC : ExcC X.K C) (hz : Zc (.ref C) none oe) (hf : ∃ vs, oe.data = .fields vs) (hv : PE (X.suite a ((a, oe) :: pn)) (.Name n p1) (tVar i)) (hg : Gl (X.suite a ((a, oe) :: pn)) "isinstance") (hm : X.mg "isinstance" = none)
    (ca : CA (X.suite a ((a, oe) :: pn)) e2 c cv) (hki : PySem.W.kitOne X.K (.ref C) cv = some b) (hk : kindOf κ i = .x a)
    (he : starEach [.Name n p1, e2] X.env = (false, eval (.Name n p1) X.env) :: starEach [e2] X.env := by rfl) (he2 : starEach [e2] X.env = (false, eval e2 X.env) :: starEach [] X.env := by rfl) (hpl : (backTo pos (starEach [e2] X.env)).any (·.1) = false := by rfl) :
    SE (X.suite a ((a, oe) :: pn)) κ M .fz (.Call (.Name "isinstance" p) [.Name n p1, e2] [] pos) (wIsE i b) :=
  SE.of (pe_callB (call_isE EC hz hf) hg hm (by decide +kernel) (pa_cons hv (pa_cons ca.pe pa_nil he2) he) (by decide) (by decide) he hpl) fun σ H Q ⟨g, env, W, F, ⟨⟨d, e0⟩, hw⟩, post⟩ =>
    ⟨_, slotX F hk e0, c, cv, b, rfl, fun u r => ca.rel r, hki, post _ H g env _ F .refl (.bl b) hw⟩
/-- .. of several classes -/
inductive CAs (X : Cx) : List Expr → List V → List Value → Prop
  | nil : CAs X [] [] []
  | cons {e : Expr} {es : List Expr} {c : V} {cs : List V} {cv : Value} {cvs : List Value} : CA X e c cv → CAs X es cs cvs → starEach (e :: es) X.env = (false, eval e X.env) :: starEach es X.env → CAs X (e :: es) (c :: cs) (cv :: cvs)
def tCls : List V → TA
  | [] => tNil
  | c :: cs => tCons (tC c) (tCls cs)
theorem CAs.pa {X : Cx} {es : List Expr} {cs : List V} {cvs : List Value} (h : CAs X es cs cvs) : PA X es (tCls cs) := by
  induction h with
  | nil => exact pa_nil
  | cons h _ hs ih => exact pa_cons h.pe ih hs
theorem tCls_go : ∀ {cs : List V} {σ : St} {H : Hp} {Q : List V → Hp → Prop}, Q cs H → tCls cs σ H Q
  | [], _, _, _, q => q
  | c :: cs, σ, H, Q, q => tCls_go (cs := cs) (Q := fun xs H2 => Q (c :: xs) H2) q
theorem CAs.rel {X : Cx} {es : List Expr} {cs : List V} {cvs : List Value} (h : CAs X es cs cvs) : ∀ {its : List Value}, Vals cs its → its = cvs := by
  induction h with
  | nil => intro its r; cases r; rfl
  | cons h _ _ ih =>
    intro its r
    cases r with
    | cons r1 r2 => rw [h.rel r1, ih r2]
theorem CAs.len {X : Cx} {es : List Expr} {cs : List V} {cvs : List Value} (h : CAs X es cs cvs) : cs.length = es.length := by
  induction h with
  | nil => rfl
  | cons _ _ _ ih => simp [ih]
theorem se_isET {es : List Expr} {x1} {cs : List V} {cvs : List Value} (b : Bool) (EC : ExcC X.K C) (hz : Zc (.ref C) none oe) (hf : ∃ vs, oe.data = .fields vs) (hv : PE (X.suite a ((a, oe) :: pn)) (.Name n p1) (tVar i)) (hg : Gl (X.suite a ((a, oe) :: pn)) "isinstance") (hm : X.mg "isinstance" = none)
    (ca : CAs (X.suite a ((a, oe) :: pn)) es cs cvs) (hki : PySem.W.kitAny X.K (.ref C) cvs = some b) (hk : kindOf κ i = .x a) (hlen : es.length ≤ 100 := by decide)
    (he : starEach [.Name n p1, .Tuple es x1 p2] X.env = (false, eval (.Name n p1) X.env) :: starEach [.Tuple es x1 p2] X.env := by rfl) (he2 : starEach [.Tuple es x1 p2] X.env = (false, eval (.Tuple es x1 p2) X.env) :: starEach [] X.env := by rfl) (hpl : (backTo pos (starEach [.Tuple es x1 p2] X.env)).any (·.1) = false := by rfl) :
    SE (X.suite a ((a, oe) :: pn)) κ M .fz (.Call (.Name "isinstance" p) [.Name n p1, .Tuple es x1 p2] [] pos) (wIsE i b) :=
  SE.of (pe_callB (call_isET EC hz hf) hg hm (by decide +kernel) (pa_cons hv (pa_cons (pe_tup ca.pa) pa_nil he2) he) (by decide) (by decide) he hpl) fun σ H Q ⟨g, env, W, F, ⟨⟨d, e0⟩, hw⟩, post⟩ =>
    ⟨_, slotX F hk e0, tCls_go ⟨by rw [ca.len]; exact Nat.le_trans hlen (by rw [sizeLine_eq]; decide), fun q nq => ⟨q, cs, cvs, b, rfl, upd_same, fun its r => ca.rel r, hki, post _ _ g env _ (F.new0 nq) (.new0 nq) (.bl b) hw⟩⟩⟩
end
structure FnBX (P : Program) (w : World) (K : PySem.W.Frag) (mg : Str → Option Value) (base : Heap) (lv : Nat) (x : Str) (ps : List Str) (ms : List PM) (k : RK) (S : FS) : Prop where
  ex : ∃ f fd, FnOk P w K mg base (L2.CX P w) lv f fd ps (spOfX K mg ms k S) ∧ mg x = some (.ref f) ∧ PySem.W.keepIn K (.ref f) = true ∧ L2.Binds K fd ps []
/-- a call of what may raise, where nothing is raised -/
def wCallN (S : FS) (a : WA) : WE := fun e Q => a e fun xs e1 => S xs fun r => (∀ cn, r ≠ exD cn) ∧ Q r e1
def wAsgX (i : Nat) (w : WE) : WS := fun W e1 => w e1 fun d e2 => (∀ cn, d = exD cn → W.rt d e2) ∧ ((∀ cn, d ≠ exD cn) → W.nx (e2.set i (some d)))
section
variable {X : Cx} {Wx : WX} {κ : List SK} {M Me : List Nat} {k : RK} {pos : Pos} {e : Expr} {w : WE}
theorem sex_fn {lv lc : Nat} {ps : List Str} {ms : List PM} {S : FS} {x : Str} {p : Pos} {es : List Expr} {ks : List RK} {wl : WA} (G : FnBX X.prog X.w X.K X.mg X.base lc x ps ms k S) (tk : Takes X Wx) (hr : Room lv X.A) (hg : Gl X x) (ha : SA X.nox κ M ks (e :: es) wl) (hl : lc ≤ lv := by decide)
    (hp : passA ks ms = true := by rfl) (kk : k = .fz ∨ k = .nw := by first | exact .inl rfl | exact .inr rfl) (hdb : (x == ("__debug__" : Str)) = false := by decide)
    (he : starEach (e :: es) X.env = (false, eval e X.env) :: starEach es X.env := by rfl) (hpl : (backTo pos (starEach es X.env)).any (·.1) = false := by rfl) : SEX X Wx κ M k (.Call (.Name x p) (e :: es) [] pos) (wCall S wl) := by
  obtain ⟨f, fd, F, hm, hk, hb⟩ := G.ex
  exact sex_call F tk (hr.mono hl) hg hm hk hb ha hp kk hdb he hpl
theorem se_fnX {lv lc : Nat} {ps : List Str} {ms : List PM} {S : FS} {x : Str} {p : Pos} {es : List Expr} {ks : List RK} {wl : WA} (G : FnBX X.prog X.w X.K X.mg X.base lc x ps ms k S) (hr : Room lv X.A) (hg : Gl X x) (ha : SA X.nox κ M ks (e :: es) wl) (hl : lc ≤ lv := by decide)
    (hp : passA ks ms = true := by rfl) (kk : k = .fz ∨ k = .nw := by first | exact .inl rfl | exact .inr rfl) (hdb : (x == ("__debug__" : Str)) = false := by decide)
    (he : starEach (e :: es) X.env = (false, eval e X.env) :: starEach es X.env := by rfl) (hpl : (backTo pos (starEach es X.env)).any (·.1) = false := by rfl) : SE X.nox κ M k (.Call (.Name x p) (e :: es) [] pos) (wCallN S wl) := by
  refine SE.of (sex_fn (X := X.nox) (Wx := fun _ _ _ _ => False) G takes_no hr hg ha hl hp kk hdb he hpl) fun σ H Q ⟨g, env, W, F, hw, post⟩ => ?_
  have hw : wl env fun xs e1 => S xs fun r => (∀ cn, r ≠ exD cn) ∧ W r e1 := hw
  exact ⟨g, env, fun r e1 => (∀ cn, r ≠ exD cn) ∧ W r e1, F, hw, fun v H1 g1 e1 d F1 s1 r1 w1 => post v H1 g1 e1 d F1 s1 r1 w1.2, fun H1 g1 e1 cn C F1 s1 w1 _ => w1.1 cn rfl⟩
end
section
variable {K : PySem.W.Frag} {D C : Addr} {b : Bool}
theorem kit_own (h1 : PySem.W.isClsIn K C = true) (h2 : PySem.W.typeIn K (.ref C) = some (.type "type")) (h3 : PySem.W.subIn K (.ref D) (.ref C) = some b) (h4 : PySem.W.subIn K (.ref D) (.ref D) = some true) : PySem.W.kitOne K (.ref D) (.ref C) = some b := by
  by_cases e : D = C
  · subst e
    rw [h4] at h3
    cases h3
    exact if_pos (beq_self_eq_true _)
  · have e1 : ((Value.ref D == Value.ref C) = true) = False := by simp [e]
    have e2 : ((PySem.W.clsIn K C).isSome && PySem.W.typeIn K (.ref C) == some (.type "type")) = true := by
      have h1' : (PySem.W.clsIn K C).isSome = true := h1
      rw [h1', h2] <;> rfl
    unfold PySem.W.kitOne PySem.W.kitCls
    rw [if_neg (by rw [e1]; exact id)]
    simp only
    rw [if_pos e2]
    exact h3
theorem kit_blt {T : String} (hT : PySem.W.kitMeta T = true) (h : PySem.W.subIn K (.ref D) (.type T) = some b) : PySem.W.kitOne K (.ref D) (.type T) = some b := by
  unfold PySem.W.kitOne PySem.W.kitCls
  rw [if_neg (by intro c; cases c)]
  simp only
  rw [if_pos hT]
  exact h
theorem kit_nil {t : Value} : PySem.W.kitAny K t [] = some false := rfl
theorem kit_f {t c : Value} {r : List Value} (h : PySem.W.kitOne K t c = some false) (h2 : PySem.W.kitAny K t r = some b) : PySem.W.kitAny K t (c :: r) = some b := by
  unfold PySem.W.kitAny
  rw [h]
  exact h2
end
/-- what does not raise, in a row with what may -/
theorem SSX.thru {X : Cx} {Wx : WX} {κ : List SK} {M : List Nat} {k : RK} {st : Stmt} {s : WS} (h : SS X.nox κ M k st s) : SSX X Wx κ M k st s :=
  SSX.of (⟨fun pins s0 σ H D I hw => wpAny_mono (h.run pins s0 σ H D (I.wish _) hw) (fun _ _ r => r.unwish) fun _ _ z => False.elim z⟩ : PS X st (cS X.K κ M k s)) fun D σ H ⟨g, env, W, F, hw, n, b, c, r, _⟩ => ⟨g, env, W, F, hw, n, b, c, r⟩
end G7

set_option maxRecDepth 100000
namespace G7
open PySem PySem.Spec PyProof.Rows L2
section
variable {X : Cx} {Wx : WX} {κ : List SK} {M Me N : List Nat} {k : RK} {e tg iter : Expr} {w : WE} {s : WS} {wi : WI} {f : WG} {ts : List Nat} {pos : Pos}
theorem ssx_for {body : List Stmt} (hp : PassesOwn (model X.prog X.w) X.A X.env X.xe) (hc : X.calm = true) (hi : SI X κ Me N tg iter wi) (hg : SG X κ ts tg f) (hb : SSsX X Wx κ M k body s) (dis : ∀ i ∈ M, i ∉ N := by decide) (sub : ∀ i ∈ Me, i ∈ M := by decide)
    (hs : ∀ x, foldedSetIterable iter X.env x = pure x := by intro _; rfl) : SSX X Wx κ M k (.For tg iter body [] pos) (wFor wi f s) :=
  SSX.of (ps_for hp hc hi hg hb hs) fun D σ H ⟨g, env, W, F, hw, n, b, c, r, x⟩ => ⟨g, env, _, F, hw, fun J H1 g1 e1 xs L F1 s1 L1 hL wk w1 => by
    have s1' := (s1.mono sub).toS F F1
    refine ⟨fun i m σ' H' => m = xs.length - i ∧ i ≤ xs.length ∧ ∃ g' env', Frm X.K κ g' env' σ' H' ∧ SStep κ M g1 g' H1 H' ∧ forL f s W (xs.drop i) env', ⟨xs.length, by simp, Nat.zero_le _, g1, e1, F1, .refl F1, by simpa using w1⟩, ?_⟩
    rintro i m σ2 H2 ⟨rfl, hi2, g2, e2, F2, s2, w2⟩
    have L2 := hL X.K M g1 g2 e1 e2 σ σ2 H1 H2 dis F1 F2 s2 L1
    by_cases hlt : i < xs.length
    · refine .inr ⟨wk.go g2 H2 i L2 (fun a => F2.own_ne) hlt, fun σ' H' => i < xs.length ∧ ∃ g' env', Frm X.K κ g' env' σ' H' ∧ SStep κ M g1 g' H1 H' ∧ forL f s W (xs.drop (i + 1)) env', fun σ' H' q => ⟨xs.length - (i + 1), by omega, rfl, by omega, q.2⟩, fun v H3 y => ?_⟩
      obtain ⟨kp, x', ex, rx⟩ := wk.yd g2 H2 i v H3 L2 (fun a => F2.own_ne) hlt y
      have F3 : Frm X.K κ g2 e2 σ2 H3 := F2.same kp
      have s3 : SStep κ M g1 g2 H1 H3 := s2.trans ((EStep.same (M := M) (g := g2) kp).toS F2 F3)
      have ed : xs.drop i = x' :: xs.drop (i + 1) := by
        rw [List.drop_eq_getElem_cons hlt]
        rw [List.getElem?_eq_getElem hlt] at ex
        cases ex; rfl
      rw [ed] at w2
      obtain ⟨e3, ee, w3⟩ := w2
      refine ⟨g2, e2, x', e3, F3, rx, ee, fun σ4 F4 _ => ?_⟩
      have s4 : SStep κ M g1 g2 H1 H3 := s3
      refine ⟨g2, e3, _, F4, w3, fun g' env' σ' H' F' s' q => ⟨hlt, g', env', F', s4.trans s', q⟩, fun g' env' σ' H' F' s' q => n g' env' σ' H' F' (s1'.trans (s4.trans s')) q, fun g' env' σ' H' F' s' q => ⟨hlt, g', env', F', s4.trans s', q⟩,
        fun g' env' σ' H' v d F' s' rr q => r g' env' σ' H' v d F' (s1'.trans (s4.trans s')) ((rr.back s4).back s1') q, fun g' env' σ' H' cn C F' s' q hC => x g' env' σ' H' cn C F' (s1'.trans (s4.trans s')) q hC⟩
    · have e : i = xs.length := by omega
      subst e
      rw [List.drop_length] at w2
      exact .inl ⟨wk.stop g2 H2 L2, n g2 e2 σ2 H2 F2 (s1'.trans s2) w2⟩⟩
/-- name = what may raise -/
theorem ssx_set {i : Nat} {x : Str} {pos' : Pos} (hN : X.N.Nodup) (hi : X.N[i]? = some x) (hx : Loc X.env.scope x) (he : SEX X Wx κ Me .fz e w) (hk : kindOf κ i = .v) (hs : swapsWith e (some (.Name x pos')) pos.line X.env = pure false := by rfl) (sub : ∀ i ∈ Me, i ∈ M := by decide)
    (hf : X.fn x = true ∨ X.env.scope.names.lookup x = some .local := by first | exact .inl rfl | exact .inr rfl | assumption) : SSX X Wx κ M k (.Assign [.Name x pos'] e pos) (wAsgX i w) :=
  SSX.of (ps_set hN hi hx he hs hf) fun D σ H ⟨g, env, W, F, hw, n, b, c, r, x⟩ => ⟨g, env, _, F, hw, fun v H1 g1 e1 d F1 s1 r1 w1 =>
    n g1 _ _ H1 (F1.set (by rw [hk]; exact r1)) ((s1.mono sub).toS F F1) (w1.2 fun cn e => by subst e; exact Rep.noEx r1), fun H1 g1 e1 cn C F1 s1 w1 hC => x g1 e1 σ H1 cn C F1 ((s1.mono sub).toS F F1) (w1.1 cn rfl) hC⟩
end
end G7

namespace G7
namespace K20
open PySem
/-- _law_pool(cell): slots 0 cell:r; modes ['rd']; answer nw -/
def wb_l_pool : WS :=
  (wRet (wList (waCons (wBlt max2D (waCons (wC (.int 0)) (waCons (wOp2 subD (wVar 0) (wOp2 powD (wC (.int 10)) (wC (.int 18)))) waNil))) (waCons (wOp2 modD (wVar 0) (wOp2 powD (wC (.int 10)) (wC (.int 18)))) (waCons (wC (.int 0)) waNil)))))

/-- _law_next(pool, base): slots 0 pool:p, 1 base:r, 2 digit:v, 3 mixed:v, 4 stir:v; modes ['pl', 'rd']; answer fz -/
def wb_l_next : WS :=
  (wSeq (wIf (tVal (wOp2 gtD (wPlIx 0) (wC (.int 0)))) (wSeq (wAsg 2 (wOp2 modD (wPlIx 0) (wVar 1)))
    (wSeq (wPlSet 0 (wOp2 fdivD (wPlIx 0) (wVar 1)))
    (wRet (wVar 2)))) wNil)
    (wSeq (wPlSet 0 (wOp2 addD (wPlIx 0) (wC (.int 1))))
    (wSeq (wAsg 3 (wOp2 modD (wOp2 addD (wPlIx 0) (wOp2 mulID (wC (.int 6053)) (wPlIx 0))) (wC (.int 1000000007))))
    (wSeq (wAsg 4 (wOp2 modD (wOp2 mulID (wOp2 addD (wVar 3) (wC (.int 29))) (wOp2 addD (wVar 3) (wC (.int 91193)))) (wC (.int 998244353))))
    (wRet (wOp2 modD (wOp2 fdivD (wOp2 modD (wOp2 mulID (wVar 4) (wVar 4)) (wC (.int 2147483647))) (wC (.int 16))) (wVar 1)))))))

/-- _law_shuffled(pool, many): slots 0 pool:p, 1 many:r, 2 left:o, 3 found:o; modes ['pl', 'rd']; answer fz -/
def wb_l_shuffled (S_l_next : FS) : WS :=
  (wSeq (wAsg 2 (wLstRg (wiRg1 (wVar 1))))
    (wSeq (wAsg 3 (wList waNil))
    (wSeq (wWhile (tVal (wOp2 neD (wVar 2) (wList waNil))) (wExpr (wMut 3 appendF (waCons (wMut 2 popAtF (waCons (wCall S_l_next (waCons (wVar 0) (waCons (wBlt lenD (waCons (wVar 2) waNil)) waNil))) waNil)) waNil))))
    (wRet (wVar 3)))))

/-- _law_pair(a, b): slots 0 a:r, 1 b:r; modes ['rd', 'rd']; answer fz -/
def wb_l_pair : WS :=
  (wRet (wTup (waCons (wBlt min2D (waCons (wVar 0) (waCons (wVar 1) waNil))) (waCons (wBlt max2D (waCons (wVar 0) (waCons (wVar 1) waNil))) waNil))))

/-- _law_web(pool, most, room, whole): slots 0 pool:p, 1 most:r, 2 room:r, 3 whole:r, 4 many:v, 5 share:v, 6 ties:o, 7 order:v, 8 k:v, 9 pairs:o, 10 b:v, 11 a:v; modes ['pl', 'rd', 'rd', 'rd']; answer fz -/
def wb_l_web (S_l_next : FS) (S_l_shuffled : FS) (S_l_pair : FS) : WS :=
  (wSeq (wAsg 4 (wOp2 addD (wC (.int 1)) (wCall S_l_next (waCons (wVar 0) (waCons (wVar 1) waNil)))))
    (wSeq (wAsg 5 (wOp2 ixD (wList (waCons (wC (.int 0)) (waCons (wC (.int 1)) (waCons (wC (.int 2)) (waCons (wC (.int 3)) (waCons (wC (.int 4)) (waCons (wC (.int 6)) waNil))))))) (wCall S_l_next (waCons (wVar 0) (waCons (wC (.int 6)) waNil)))))
    (wSeq (wAsg 6 (wC (dTD [])))
    (wSeq (wAsg 7 (wCall S_l_shuffled (waCons (wVar 0) (waCons (wVar 4) waNil))))
    (wSeq (wIf (tVal (wVar 3)) (wFor (wiRg2 (wC (.int 1)) (wVar 4)) (gN 8) (wDputT 6 (wC (.bool true)) (wCall S_l_pair (waCons (wOp2 ixD (wVar 7) (wVar 8)) (waCons (wOp2 ixD (wVar 7) (wCall S_l_next (waCons (wVar 0) (waCons (wVar 8) waNil)))) waNil))))) wNil)
    (wSeq (wIf (tAnd (tVal (wOp2 gtD (wVar 4) (wC (.int 2)))) (tAnd (tVal (wOp2 leD (wOp2 addD (wBlt lenTD (waCons (wVar 6) waNil)) (wVar 4)) (wVar 2))) (tVal (wOp2 eqD (wCall S_l_next (waCons (wVar 0) (waCons (wC (.int 3)) waNil))) (wC (.int 0)))))) (wFor (wiRg1 (wVar 4)) (gN 8) (wDputT 6 (wC (.bool true)) (wCall S_l_pair (waCons (wOp2 ixD (wVar 7) (wVar 8)) (waCons (wOp2 ixD (wVar 7) (wOp2 subD (wVar 8) (wC (.int 1)))) waNil))))) wNil)
    (wSeq (wAsg 9 (wList waNil))
    (wSeq (wFor (wiRg1 (wVar 4)) (gN 10) (wExpr (wMut 9 extendF (waCons (wComp (wiRg1 (wVar 10)) (gN 11) [11] G7.tYes (wTup (waCons (wVar 11) (waCons (wVar 10) waNil)))) waNil))))
    (wSeq (wFor (wiSeq (wCall S_l_shuffled (waCons (wVar 0) (waCons (wBlt lenD (waCons (wVar 9) waNil)) waNil)))) (gN 8) (wIf (tAnd (tVal (wOp2 ltD (wCall S_l_next (waCons (wVar 0) (waCons (wC (.int 6)) waNil))) (wVar 5))) (tVal (wOp2 ltD (wBlt lenTD (waCons (wVar 6) waNil)) (wVar 2)))) (wDputT 6 (wC (.bool true)) (wOp2 ixD (wVar 9) (wVar 8))) wNil))
    (wRet (wTup (waCons (wVar 4) (waCons (wBlt tupD (waCons (wKeysT 6) waNil)) waNil)))))))))))))

/-- led_on(reach, begin, end): slots 0 reach:r, 1 begin:r, 2 end:r, 3 more:v, 4 found:o, 5 place:v, 6 some:v; modes ['rd', 'rd', 'rd']; answer fz -/
def wb_led_on : WS :=
  (wSeq (wAsg 3 (wOp2 orBD (wOp2 ixD (wVar 0) (wVar 2)) (wOp2 shlD (wC (.int 1)) (wVar 2))))
    (wSeq (wAsg 4 (wList waNil))
    (wSeq (wFor (wiEnum (wVar 0)) (gT [(gN 5), (gN 6)]) (wSeq (wIf (tOr (tVal (wOp2 eqD (wVar 5) (wVar 1))) (tVal (wOp2 eqD (wOp2 andBD (wOp2 shrD (wVar 6) (wVar 1)) (wC (.int 1))) (wC (.int 1))))) (wAsg 6 (wOp2 orBD (wVar 6) (wVar 3))) wNil)
    (wExpr (wMut 4 appendF (waCons (wVar 6) waNil)))))
    (wRet (wBlt tupD (waCons (wVar 4) waNil))))))

/-- grown(begun, a, b): slots 0 begun:r, 1 a:v, 2 b:v, 3 found:o, 4 pointing:v, 5 reach:v, 6 way:v, 7 begin:v, 8 end:v; modes ['rd', 'fz', 'fz']; answer fz -/
def wb_grown (S_led_on : FS) : WS :=
  (wSeq (wAsg 3 (wList waNil))
    (wSeq (wFor (wiSeq (wVar 0)) (gT [(gN 4), (gN 5)]) (wFor (wiSeq (wTup (waCons (wTup (waCons (wC (.int 0)) (waCons (wVar 2) (waCons (wVar 1) waNil)))) (waCons (wTup (waCons (wC (.int 1)) (waCons (wVar 1) (waCons (wVar 2) waNil)))) waNil)))) (gT [(gN 6), (gN 7), (gN 8)]) (wIf (tVal (wOp2 eqD (wOp2 andBD (wOp2 shrD (wOp2 ixD (wVar 5) (wVar 8)) (wVar 7)) (wC (.int 1))) (wC (.int 0)))) (wExpr (wMut 3 appendF (waCons (wTup (waCons (wOp2 addD (wVar 4) (wTup (waCons (wVar 6) waNil))) (waCons (wCall S_led_on (waCons (wVar 5) (waCons (wVar 7) (waCons (wVar 8) waNil)))) waNil))) waNil))) wNil)))
    (wRet (wVar 3))))

/-- all_falls(web): slots 0 web:r, 1 found:v, 2 a:v, 3 b:v, 4 pointing:v, 5 reach:v; modes ['rd']; answer fz -/
def wb_all_falls (S_grown : FS) : WS :=
  (wSeq (wAsg 1 (wList (waCons (wTup (waCons (wTup waNil) (waCons (wOp2 repTD (wTup (waCons (wC (.int 0)) waNil)) (wOp2 ixD (wVar 0) (wC (.int 0)))) waNil))) waNil)))
    (wSeq (wFor (wiSeq (wOp2 ixD (wVar 0) (wC (.int 1)))) (gT [(gN 2), (gN 3)]) (wSeq (wAsg 1 (wCall S_grown (waCons (wVar 1) (waCons (wVar 2) (waCons (wVar 3) waNil)))))
    (wIf (tVal (wOp2 gtD (wBlt lenD (waCons (wVar 1) waNil)) (wC (.int 300)))) (wRaise "TooMany") wNil)))
    (wRet (wBlt sortedTsD (waCons (wComp (wiSeq (wVar 1)) (gT [(gN 4), (gN 5)]) [4, 5] G7.tYes (wVar 4)) waNil)))))

/-- _law_told_falls(web): slots 0 web:r, 1 found:v, 2 e:v; modes ['rd']; answer fz -/
def wb_l_told_falls (S_all_falls : FS) : WS :=
  (wSeq (wAsg 1 (wC (.str "none")))
    (wSeq (wTryX 2 [("TooMany", (wIf (tAnd (tVal (wIsE 2 true)) (tAnd (tVal (wIsE 2 true)) (tNot (tVal (wIsE 2 false))))) (wAsg 1 (wC (.str "many"))) wNil))] (wAsgX 1 (wCall S_all_falls (waCons (wVar 0) waNil))))
    (wRet (wVar 1))))

/-- _law_lowest(some): slots 0 some:v, 1 at:v; modes ['fz']; answer fz -/
def wb_l_lowest : WS :=
  (wSeq (wAsg 1 (wC (.int 0)))
    (wSeq (wWhile (tVal (wOp2 eqD (wOp2 modD (wVar 0) (wC (.int 2))) (wC (.int 0)))) (wSeq (wAsg 0 (wOp2 fdivD (wVar 0) (wC (.int 2))))
    (wAsg 1 (wOp2 addD (wVar 1) (wC (.int 1))))))
    (wRet (wVar 1))))

/-- _law_counts(web): slots 0 web:r, 1 near_bits:o, 2 a:v, 3 b:v, 4 apart:f, 5 signs:v, 6 some:v, 7 low:v, 8 rest:v, 9 found:f, 10 part:v; modes ['rd']; answer fz -/
def wb_l_counts (S_l_lowest : FS) : WS :=
  (wSeq (wAsg 1 (wOp2 repLD (wList (waCons (wC (.int 0)) waNil)) (wOp2 ixD (wVar 0) (wC (.int 0)))))
    (wSeq (wFor (wiSeq (wOp2 ixD (wVar 0) (wC (.int 1)))) (gT [(gN 2), (gN 3)]) (wSeq (wSetIx 1 (wOp2 addD (wOp2 ixD (wVar 1) (wVar 2)) (wOp2 shlD (wC (.int 1)) (wVar 3))) (wVar 2))
    (wSetIx 1 (wOp2 addD (wOp2 ixD (wVar 1) (wVar 3)) (wOp2 shlD (wC (.int 1)) (wVar 2))) (wVar 3))))
    (wSeq (wAsg 4 (wDisp1 (wC (.int 0)) (wC (.int 1))))
    (wSeq (wAsg 5 (wOp2 repLD (wList (waCons (wC (.int 0)) waNil)) (wOp2 shlD (wC (.int 1)) (wOp2 ixD (wVar 0) (wC (.int 0))))))
    (wSeq (wAsO 4 (wFor (wiRg2 (wC (.int 1)) (wOp2 shlD (wC (.int 1)) (wOp2 ixD (wVar 0) (wC (.int 0))))) (gN 6) (wSeq (wAsg 7 (wCall S_l_lowest (waCons (wVar 6) waNil)))
    (wSeq (wAsg 8 (wOp2 subD (wVar 6) (wOp2 shlD (wC (.int 1)) (wVar 7))))
    (wIf (tAnd (tVal (wOp2 dinD (wVar 8) (wVar 4))) (tVal (wOp2 eqD (wOp2 andBD (wOp2 ixD (wVar 1) (wVar 7)) (wVar 8)) (wC (.int 0))))) (wDput 4 (wOp2 subD (wC (.int 0)) (wOp2 dgetD (wVar 4) (wVar 8))) (wVar 6)) wNil)))))
    (wSeq (wAsg 9 (wOp2 addLD (wList (waCons (wC (.int 1)) waNil)) (wSl slD (wVar 5) (woS (wC (.int 1))) woN)))
    (wSeq (wAsO 9 (wAsO 4 (wFor (wiRg2 (wC (.int 1)) (wOp2 shlD (wC (.int 1)) (wOp2 ixD (wVar 0) (wC (.int 0))))) (gN 6) (wSeq (wAsg 10 (wVar 6))
    (wWhile (tVal (wOp2 gtD (wVar 10) (wC (.int 0)))) (wSeq (wSetIx 9 (wOp2 subD (wOp2 ixD (wVar 9) (wVar 6)) (wOp2 mulID (wDget2 (wVar 4) (wVar 10) (wC (.int 0))) (wOp2 ixD (wVar 9) (wOp2 subD (wVar 6) (wVar 10))))) (wVar 6))
    (wAsg 10 (wOp2 andBD (wOp2 subD (wVar 10) (wC (.int 1))) (wVar 6)))))))))
    (wFrz 4 (wFrz 9 (wAsV 9 (wAsV 4 (wRet (wTup (waCons (wVar 4) (waCons (wVar 9) waNil)))))))))))))))

/-- _law_flows(web, pointing): slots 0 web:r, 1 pointing:r, 2 found:o, 3 k:v, 4 a:v, 5 b:v; modes ['rd', 'rd']; answer fz -/
def wb_l_flows : WS :=
  (wSeq (wAsg 2 (wList waNil))
    (wSeq (wFor (wiEnum (wOp2 ixD (wVar 0) (wC (.int 1)))) (gT [(gN 3), (gT [(gN 4), (gN 5)])]) (wExpr (wMut 2 appendF (waCons (wOp2 ixD (wList (waCons (wTup (waCons (wVar 5) (waCons (wVar 4) waNil))) (waCons (wTup (waCons (wVar 4) (waCons (wVar 5) waNil))) waNil))) (wOp2 ixD (wVar 1) (wVar 3))) waNil))))
    (wRet (wVar 2))))

/-- _law_is_fall(web, pointing): slots 0 web:r, 1 pointing:r, 2 flows:v, 3 left:v, 4 turn:v, 5 ends:v, 6 begin:v, 7 end:v, 8 place:v; modes ['rd', 'rd']; answer fz -/
def wb_l_is_fall (S_l_flows : FS) : WS :=
  (wSeq (wAsg 2 (wCall S_l_flows (waCons (wVar 0) (waCons (wVar 1) waNil))))
    (wSeq (wAsg 3 (wLstRg (wiRg1 (wOp2 ixD (wVar 0) (wC (.int 0))))))
    (wSeq (wFor (wiRg1 (wOp2 ixD (wVar 0) (wC (.int 0)))) (gN 4) (wSeq (wAsg 5 (wComp (wiSeq (wVar 2)) (gT [(gN 6), (gN 7)]) [6, 7] (tVal (wOp2 inD (wVar 6) (wVar 3))) (wVar 7)))
    (wAsg 3 (wComp (wiSeq (wVar 3)) (gN 8) [8] (tVal (wOp2 inD (wVar 8) (wVar 5))) (wVar 8)))))
    (wRet (wOp2 eqD (wVar 3) (wList waNil))))))

/-- _law_ints(some): slots 0 some:r, 1 number:v; modes ['rd']; answer fz -/
def wb_l_ints : WS :=
  (wRet (wBlt allD (waCons (wComp (wiSeq (wVar 0)) (gN 1) [1] G7.tYes (wAnd (wOp1 (isTD "int") (wVar 1)) (wNot (wOp1 (isTD "bool") (wVar 1))))) waNil)))

/-- law(script): slots 0 script:r, 1 cell:v, 2 pool:p, 3 web:v, 4 due:v, 5 found:v, 6 fall:v, 7 kept:o; modes ['rd']; answer fz -/
def wb_law (S_l_pool : FS) (S_l_web : FS) (S_l_next : FS) (S_l_counts : FS) (S_l_told_falls : FS) (S_l_ints : FS) (S_l_is_fall : FS) (S_all_falls : FS) : WS :=
  (wSeq (wFor (wiSeqH (wOp2 addLD (wList (waCons (wC (.int 0)) waNil)) (wSl slD (wVar 0) woN (woS (wC (.int 3)))))) (gN 1) (wSeq (wAsgP 2 (wCall S_l_pool (waCons (wVar 1) waNil)))
    (wSeq (wAsg 3 (wCall S_l_web (waCons (wVar 2) (waCons (wC (.int 9)) (waCons (wOp2 ixD (wList (waCons (wC (.int 8)) (waCons (wC (.int 10)) (waCons (wC (.int 12)) (waCons (wC (.int 20)) waNil))))) (wCall S_l_next (waCons (wVar 2) (waCons (wC (.int 4)) waNil)))) (waCons (wC (.bool false)) waNil))))))
    (wSeq (wAsg 4 (wOp2 ixD (wOp2 ixD (wCall S_l_counts (waCons (wVar 3) waNil)) (wC (.int 1))) (wOp1 negD (wC (.int 1)))))
    (wSeq (wAsg 5 (wCall S_l_told_falls (waCons (wVar 3) waNil)))
    (wSeq (wIf (tAnd (tVal (wOp2 gtD (wVar 4) (wC (.int 300)))) (tVal (wOp2 neD (wVar 5) (wC (.str "many"))))) (wRet (wC (.bool false))) wNil)
    (wIf (tVal (wOp2 leD (wVar 4) (wC (.int 300)))) (wSeq (wIf (tOr (tNot (tVal (wOp1 (isTD "list") (wVar 5)))) (tOr (tVal (wOp2 neD (wBlt lenD (waCons (wVar 5) waNil)) (wVar 4))) (tVal (wOp2 neD (wOp1 lenTbD (wVar 5)) (wVar 4))))) (wRet (wC (.bool false))) wNil)
    (wSeq (wIf (tVal (wOp2 neD (wVar 5) (wBlt sortedTsD (waCons (wVar 5) waNil)))) (wRet (wC (.bool false))) wNil)
    (wSeq (wFor (wiSeq (wVar 5)) (gN 6) (wSeq (wIf (tOr (tNot (tVal (wOp1 (isTD "tuple") (wVar 6)))) (tOr (tNot (tVal (wCall S_l_ints (waCons (wVar 6) waNil)))) (tVal (wOp2 neD (wBlt lenD (waCons (wVar 6) waNil)) (wBlt lenD (waCons (wOp2 ixD (wVar 3) (wC (.int 1))) waNil)))))) (wRet (wC (.bool false))) wNil)
    (wIf (tNot (tVal (wCall S_l_is_fall (waCons (wVar 3) (waCons (wVar 6) waNil))))) (wRet (wC (.bool false))) wNil)))
    (wSeq (wAsg 7 (wBlt lstD (waCons (wVar 5) waNil)))
    (wSeq (wMutV [.r, .v, .p, .v, .v, .v, .v, .o] none (wVar 5) (wTup waNil))
    (wIf (tVal (wOp2 neD (wCallN S_all_falls (waCons (wVar 3) waNil)) (wVar 7))) (wRet (wC (.bool false))) wNil)))))) wNil)))))))
    (wRet (wC (.bool true))))

end K20
end G7

namespace G7
open PySem

section
variable {e : En} {i j : Nat} {d x y : D} {Q : D → En → Prop} {QT : Bool → En → Prop} {QA : List D → En → Prop} {QO : Option Int → En → Prop} {W : WD} {a b c : WE} {r : WA} {s t : WT} {f : D → D → Option D} {f1 : D → Option D} {fl : List D → Option D} {S : FS} {g : WG} {lo hi : WO} {p q : WS} {it : WI}
@[simp] theorem r_var : wVar i e Q = ∃ d, e[i]? = some (some d) ∧ Q d e := rfl
@[simp] theorem r_c : wC d e Q = Q d e := rfl
@[simp] theorem r_op1 : wOp1 f1 a e Q = a e fun x e1 => ∃ z, f1 x = some z ∧ Q z e1 := rfl
@[simp] theorem r_op2 : wOp2 f a b e Q = a e fun x e1 => b e1 fun y e2 => ∃ z, f x y = some z ∧ Q z e2 := rfl
@[simp] theorem r_nil : waNil e QA = QA [] e := rfl
@[simp] theorem r_cons : waCons a r e QA = a e fun x e1 => r e1 fun xs e2 => QA (x :: xs) e2 := rfl
@[simp] theorem r_list : wList r e Q = r e fun xs e1 => xs.length ≤ lim ∧ Q (.list xs) e1 := rfl
@[simp] theorem r_tup : wTup r e Q = r e fun xs e1 => xs.length ≤ lim ∧ Q (.tuple xs) e1 := rfl
@[simp] theorem r_call : wCall S r e Q = r e fun xs e1 => S xs fun r => Q r e1 := rfl
@[simp] theorem r_blt : wBlt fl r e Q = r e fun xs e1 => ∃ z, fl xs = some z ∧ Q z e1 := rfl
@[simp] theorem r_on : woN e QO = QO none e := rfl
@[simp] theorem r_os : woS a e QO = a e fun x e1 => ∃ i, x = .int i ∧ QO (some i) e1 := rfl
@[simp] theorem r_sl {h : D → Option Int → Option Int → Option D} : wSl h a lo hi e Q = a e fun x e1 => lo e1 fun l e2 => hi e2 fun u e3 => ∃ z, h x l u = some z ∧ Q z e3 := rfl
@[simp] theorem r_val : tVal a e QT = a e fun x e1 => ∃ b, x = .bool b ∧ QT b e1 := rfl
@[simp] theorem r_tand : tAnd s t e QT = s e fun b e1 => if b = true then t e1 QT else QT false e1 := rfl
@[simp] theorem r_tor : tOr s t e QT = s e fun b e1 => if b = true then QT true e1 else t e1 QT := rfl
@[simp] theorem r_tnot : tNot s e QT = s e fun b e1 => QT (!b) e1 := rfl
@[simp] theorem r_yes : G7.tYes e QT = QT true e := rfl
@[simp] theorem r_and : wAnd a b e Q = a e fun x e1 => ∃ c, x = .bool c ∧ if c = true then b e1 Q else Q (.bool false) e1 := rfl
@[simp] theorem r_or : wOr a b e Q = a e fun x e1 => ∃ c, x = .bool c ∧ if c = true then Q (.bool true) e1 else b e1 Q := rfl
@[simp] theorem r_not : wNot a e Q = a e fun x e1 => ∃ c, x = .bool c ∧ Q (.bool (!c)) e1 := rfl
@[simp] theorem r_ife : wIfE t a b e Q = t e fun c e1 => if c = true then a e1 Q else b e1 Q := rfl
@[simp] theorem r_chain {f g : D → D → Option D} : wChain f g a b c e Q = a e fun x e1 => b e1 fun y e2 => ∃ k, f x y = some (.bool k) ∧ if k = true then c e2 fun z e3 => ∃ r, g y z = some r ∧ Q r e3 else Q (.bool false) e2 := rfl
@[simp] theorem r_snil : wNil W e = W.nx e := rfl
@[simp] theorem r_seq : wSeq p q W e = p { W with nx := fun e1 => q W e1 } e := rfl
@[simp] theorem r_asg : wAsg i a W e = a e fun x e1 => W.nx (e1.set i (some x)) := rfl
@[simp] theorem r_asgp : wAsgP i a W e = a e fun d e1 => ∃ x y z : Int, d = .list [.int x, .int y, .int z] ∧ W.nx (e1.set i (some .none)) := rfl
@[simp] theorem r_asgg : wAsgG g a W e = a e fun x e1 => ∃ e2, g x e1 = some e2 ∧ W.nx e2 := rfl
@[simp] theorem r_expr : wExpr a W e = a e fun _ e1 => W.nx e1 := rfl
@[simp] theorem r_ret : wRet a W e = a e W.rt := rfl
@[simp] theorem r_retn : wRetN W e = W.rt .none e := rfl
@[simp] theorem r_if : wIf t p q W e = t e fun c e1 => if c = true then p W e1 else q W e1 := rfl
@[simp] theorem r_brk : wBreak W e = W.bk e := rfl
@[simp] theorem r_cnt : wCont W e = W.ct e := rfl
@[simp] theorem r_for : wFor it g p W e = it e fun xs e1 => forL g p W xs e1 := rfl
@[simp] theorem r_gn : gN i x e = some (e.set i (some x)) := rfl
@[simp] theorem r_gt {gs : List WG} {xs : List D} : gT gs (.tuple xs) e = gAll gs xs e := rfl
@[simp] theorem r_gnil : gAll [] [] e = some e := rfl
@[simp] theorem r_gcons {gs : List WG} {xs : List D} : gAll (g :: gs) (x :: xs) e = (g x e).bind fun e1 => gAll gs xs e1 := rfl
@[simp] theorem r_iseq {QI : List D → En → Prop} : wiSeq a e QI = a e fun x e1 => ∃ xs, seqD x = some xs ∧ QI xs e1 := rfl
@[simp] theorem r_irg1 {QI : List D → En → Prop} : wiRg1 a e QI = a e fun x e1 => ∃ n : Int, x = .int n ∧ -(lim : Int) ≤ n ∧ n ≤ (lim : Int) ∧ QI (rangeD 0 n) e1 := rfl
@[simp] theorem r_irg2 {QI : List D → En → Prop} : wiRg2 a b e QI = a e fun x e1 => b e1 fun y e2 => ∃ m n : Int, x = .int m ∧ y = .int n ∧ -(lim : Int) ≤ m ∧ m ≤ lim ∧ -(lim : Int) ≤ n ∧ n ≤ (lim : Int) ∧ QI (rangeD m n) e2 := rfl
@[simp] theorem r_izip {QI : List D → En → Prop} : wiZip2 a b e QI = a e fun x e1 => b e1 fun y e2 => ∃ xs ys, sameK x y = true ∧ seqD x = some xs ∧ seqD y = some ys ∧ QI (zipD xs ys) e2 := rfl
@[simp] theorem r_mut {F : List D → List D → Option (D × List D)} : wMut i F r e Q = ((∃ xs, e[i]? = some (some (.list xs))) ∧ r e fun ys e1 => ∃ xs z xs', e1[i]? = some (some (.list xs)) ∧ F xs ys = some (z, xs') ∧ Q z (e1.set i (some (.list xs')))) := rfl
@[simp] theorem r_setix : wSetIx i a b W e = a e fun y e1 => (∃ xs, e1[i]? = some (some (.list xs))) ∧ b e1 fun j e2 => ∃ k xs m, j = .int k ∧ e2[i]? = some (some (.list xs)) ∧ ixN xs.length k = some m ∧ W.nx (e2.set i (some (.list (xs.set m y)))) := rfl
@[simp] theorem r_plix : wPlIx i e Q = (e[i]? = some (some .none) ∧ ∀ x : Int, Q (.int x) e) := rfl
@[simp] theorem r_plset : wPlSet i a W e = a e fun d e1 => ∃ y : Int, d = .int y ∧ e1[i]? = some (some .none) ∧ W.nx e1 := rfl
@[simp] theorem r_np : wNp a e Q = a e fun d e1 => ∃ x y z : Int, d = .list [.int x, .int y, .int z] ∧ Q .none e1 := rfl
@[simp] theorem r_lstrg : wLstRg it e Q = it e fun xs e1 => Q (.list xs) e1 := rfl
theorem r_comp {vs : List Nat} : wComp it g vs t b e Q = it e fun xs e1 => compL g vs t b (fun acc e2 => Q (.list acc) (back e1 e2 vs)) xs [] (wp e1 vs) := rfl
@[simp] theorem r_never : wNever W e = False := rfl
@[simp] theorem seqD_l {xs : List D} : seqD (.list xs) = some xs := rfl
@[simp] theorem seqD_t {xs : List D} : seqD (.tuple xs) = some xs := rfl
end
@[simp] theorem addD_i (a b : Int) : addD (.int a) (.int b) = some (.int (a + b)) := rfl
@[simp] theorem subD_i (a b : Int) : subD (.int a) (.int b) = some (.int (a - b)) := rfl
@[simp] theorem leD_i (a b : Int) : leD (.int a) (.int b) = some (.bool (decide (a ≤ b))) := rfl
@[simp] theorem gtD_i (a b : Int) : gtD (.int a) (.int b) = some (.bool (decide (b < a))) := rfl
@[simp] theorem geD_i (a b : Int) : geD (.int a) (.int b) = some (.bool (decide (b ≤ a))) := rfl
@[simp] theorem ltD_i (a b : Int) : ltD (.int a) (.int b) = some (.bool (decide (a < b))) := rfl
@[simp] theorem negD_i (a : Int) : negD (.int a) = some (.int (-a)) := rfl
@[simp] theorem modD_i {a b : Int} (h : 0 < b) : modD (.int a) (.int b) = some (.int (a % b)) := by simp [modD, h]
@[simp] theorem fdivD_i {a b : Int} (h : 0 < b) (h' : b < 1073741824) : fdivD (.int a) (.int b) = some (.int (a / b)) := by simp [fdivD, h, h']
theorem mulID_i {a b : Int} (h : okMul a b = true) : mulID (.int a) (.int b) = some (.int (a * b)) := by simp [mulID, h]
theorem okMul_l {a b : Int} (h : -18446744073709551616 < a) (h' : a < 18446744073709551616) : okMul a b = true := by simp [okMul]; omega
theorem okMul_r {a b : Int} (h : -18446744073709551616 < b) (h' : b < 18446744073709551616) : okMul a b = true := by simp [okMul]; omega
@[simp] theorem okD_i (a : Int) : okD (.int a) = true := by simp [okD, SeqAt.shaped, PyData.canLay0, PyData.depth]
@[simp] theorem okD_b (a : Bool) : okD (.bool a) = true := by simp [okD, SeqAt.shaped, PyData.canLay0, PyData.depth]
@[simp] theorem okD_n : okD .none = true := by simp [okD, SeqAt.shaped, PyData.canLay0, PyData.depth]
@[simp] theorem eqv_ii (a b : Int) : PyData.eqv (.int a) (.int b) = decide (a = b) := by simp only [PyData.eqv]; exact Bool.beq_eq_decide_eq a b
@[simp] theorem eqv_bb (a b : Bool) : PyData.eqv (.bool a) (.bool b) = (a == b) := by simp only [PyData.eqv]
@[simp] theorem eqD_i (a b : Int) : eqD (.int a) (.int b) = some (.bool (decide (a = b))) := by simp [eqD]
@[simp] theorem neD_i (a b : Int) : neD (.int a) (.int b) = some (.bool (!decide (a = b))) := by simp [neD]
@[simp] theorem eqD_b (a b : Bool) : eqD (.bool a) (.bool b) = some (.bool (a == b)) := by simp [eqD]
@[simp] theorem neD_b (a b : Bool) : neD (.bool a) (.bool b) = some (.bool (!(a == b))) := by simp [neD]
@[simp] theorem isD_n (x : D) : isD x .none = isNoneD x := by cases x <;> rfl
@[simp] theorem isNotD_n (x : D) : isNotD x .none = notNoneD x := by cases x <;> rfl
@[simp] theorem lenD_l (xs : List D) : lenD [.list xs] = some (.int xs.length) := rfl
@[simp] theorem lenD_t (xs : List D) : lenD [.tuple xs] = some (.int xs.length) := rfl
@[simp] theorem tupD_l (xs : List D) : tupD [.list xs] = some (.tuple xs) := rfl
@[simp] theorem tupD_t (xs : List D) : tupD [.tuple xs] = some (.tuple xs) := rfl
@[simp] theorem lstD_l (xs : List D) : lstD [.list xs] = some (.list xs) := rfl
@[simp] theorem lstD_t (xs : List D) : lstD [.tuple xs] = some (.list xs) := rfl
@[simp] theorem max2D_i (a b : Int) : max2D [.int a, .int b] = some (.int (if b > a then b else a)) := rfl
@[simp] theorem min2D_i (a b : Int) : min2D [.int a, .int b] = some (.int (if b < a then b else a)) := rfl
@[simp] theorem intD_b (b : Bool) : intD [.bool b] = some (.int (if b then 1 else 0)) := rfl
@[simp] theorem intD_i (b : Int) : intD [.int b] = some (.int b) := rfl
@[simp] theorem intsD_map (ns : List Int) : intsD (ns.map PyData.int) = some ns := by
  induction ns with
  | nil => rfl
  | cons n ns ih => simp [intsD, ih]
@[simp] theorem boolsD_map (ns : List Bool) : boolsD (ns.map PyData.bool) = some ns := by
  induction ns with
  | nil => rfl
  | cons n ns ih => simp [boolsD, ih]
@[simp] theorem sortedD_i (ns : List Int) : sortedD [.list (ns.map .int)] = some (.list ((isort ns).map .int)) := by simp [sortedD]
@[simp] theorem sortedAD_i (ns : List Int) : sortedAD [.list (ns.map .int)] = some (.list ((isort ns).map .int)) := by simp [sortedAD]
theorem pairsD_dP : ∀ ps : List (Int × Int), pairsD (ps.map dP) = some ps
  | [] => rfl
  | p :: ps => by simp [pairsD, dP, pairsD_dP ps]
@[simp] theorem sortedAD_p (ps : List (Int × Int)) : sortedAD [.list (ps.map dP)] = some (.list ((psort ps).map dP)) := by
  cases ps with
  | nil => rfl
  | cons p ps =>
    have h : intsD ((p :: ps).map dP) = none := by simp [intsD, dP]
    have h2 := pairsD_dP (p :: ps)
    simp only [sortedAD, h, h2, Option.map_some]
@[simp] theorem allD_b (ns : List Bool) : allD [.list (ns.map .bool)] = some (.bool (ns.all id)) := by simp [allD]
@[simp] theorem anyD_b (ns : List Bool) : anyD [.list (ns.map .bool)] = some (.bool (ns.any id)) := by simp [anyD]
theorem ixD_l {xs : List D} {i : Nat} {x : D} (h : xs[i]? = some x) : ixD (.list xs) (.int (i : Int)) = some x := by
  have hi := (List.getElem?_eq_some_iff.mp h).1
  have : ixN xs.length (i : Int) = some i := by simp [ixN, hi]
  simp [ixD, this, h]
theorem ixD_t {xs : List D} {i : Nat} {x : D} (h : xs[i]? = some x) : ixD (.tuple xs) (.int (i : Int)) = some x := by
  have hi := (List.getElem?_eq_some_iff.mp h).1
  have : ixN xs.length (i : Int) = some i := by simp [ixN, hi]
  simp [ixD, this, h]
@[simp] theorem ixD_t0 (x : D) (xs : List D) : ixD (.tuple (x :: xs)) (.int 0) = some x := ixD_t (i := 0) rfl
@[simp] theorem ixD_t1 (x y : D) (xs : List D) : ixD (.tuple (x :: y :: xs)) (.int 1) = some y := ixD_t (i := 1) rfl
@[simp] theorem ixD_t2 (x y z : D) (xs : List D) : ixD (.tuple (x :: y :: z :: xs)) (.int 2) = some z := ixD_t (i := 2) rfl
@[simp] theorem ixD_l0 (x : D) (xs : List D) : ixD (.list (x :: xs)) (.int 0) = some x := ixD_l (i := 0) rfl
@[simp] theorem ixD_l1 (x y : D) (xs : List D) : ixD (.list (x :: y :: xs)) (.int 1) = some y := ixD_l (i := 1) rfl
@[simp] theorem wp_nil (e : En) : wp e [] = e := rfl
@[simp] theorem wp_cons (e : En) (v : Nat) (vs : List Nat) : wp e (v :: vs) = (wp e vs).set v none := rfl
@[simp] theorem back_nil (e e2 : En) : back e e2 [] = e2 := rfl
@[simp] theorem back_cons (e e2 : En) (v : Nat) (vs : List Nat) : back e e2 (v :: vs) = (back e e2 vs).set v ((e[v]?).getD none) := rfl
@[simp] theorem lim_val : lim = 1000000 := rfl
/-- a truth given: what is asked of it -/
@[simp] theorem ex_bl {x : Bool} {R : Bool → Prop} : (∃ b, PyData.bool x = PyData.bool b ∧ R b) = R x := by
  apply propext
  constructor
  · rintro ⟨b, e, r⟩; cases e; exact r
  · intro r; exact ⟨x, rfl, r⟩
theorem appendF_ok {xs : List D} {y : D} (h : xs.length < 1000000) : appendF xs [y] = some (.none, xs ++ [y]) := by simp [appendF, h]
theorem extendF_ok {xs ys : List D} (h : xs.length + ys.length ≤ 1000000) : extendF xs [.list ys] = some (.none, xs ++ ys) := by simp [extendF, h]
theorem popAtF_ok {xs : List D} {y : D} {i : Nat} (h : xs[i]? = some y) : popAtF xs [.int (i : Int)] = some (y, xs.eraseIdx i) := by
  obtain ⟨hi, he⟩ := List.getElem?_eq_some_iff.mp h
  simp [popAtF, ixN, hi, he]
theorem addLD_ok {xs ys : List D} (h : xs.length + ys.length ≤ 1000000) : addLD (.list xs) (.list ys) = some (.list (xs ++ ys)) := by simp [addLD, h]
theorem addD_l {xs ys : List D} (h : xs.length + ys.length ≤ 1000000) : addD (.list xs) (.list ys) = some (.list (xs ++ ys)) := by simp [addD, h]
theorem addD_t {xs ys : List D} (h : xs.length + ys.length ≤ 1000000) : addD (.tuple xs) (.tuple ys) = some (.tuple (xs ++ ys)) := by simp [addD, h]
/-- data of whole numbers and truths at most k deep -/
def lay (k : Nat) (d : D) : Prop := d.canLay0 = true ∧ d.depth ≤ k
theorem lay_ok {k : Nat} {d : D} (h : lay k d) (hk : k ≤ 64 := by decide) : okD d = true := by
  simp only [okD, SeqAt.shaped, Bool.and_eq_true, decide_eq_true_eq]
  exact ⟨h.1, Nat.le_trans h.2 hk⟩
theorem lay_int (i : Int) {k : Nat} : lay k (.int i) := by simp [lay, PyData.canLay0, PyData.depth]
theorem lay_all {k : Nat} : ∀ {ds : List D}, (∀ d ∈ ds, lay k d) → PyData.canLayAll0 ds = true ∧ PyData.depthAll ds ≤ k
  | [], _ => by simp [PyData.canLayAll0, PyData.depthAll]
  | d :: ds, h => by
    obtain ⟨h1, h2⟩ := lay_all (ds := ds) fun x hx => h x (List.mem_cons_of_mem _ hx)
    obtain ⟨h3, h4⟩ := h d (List.mem_cons_self)
    simp only [PyData.canLayAll0, PyData.depthAll, h1, h3, Bool.and_self, true_and]
    omega
theorem lay_tup {k : Nat} {ds : List D} (h : ∀ d ∈ ds, lay k d) : lay (k + 1) (.tuple ds) := by
  obtain ⟨h1, h2⟩ := lay_all h
  exact ⟨by simpa [PyData.canLay0] using h1, by simp [PyData.depth]; omega⟩
theorem lay_lst {k : Nat} {ds : List D} (h : ∀ d ∈ ds, lay k d) : lay (k + 1) (.list ds) := by
  obtain ⟨h1, h2⟩ := lay_all h
  exact ⟨by simpa [PyData.canLay0] using h1, by simp [PyData.depth]; omega⟩
theorem lay_ints (ns : List Int) {k : Nat} : ∀ d ∈ ns.map PyData.int, lay k d := fun d hd => by
  obtain ⟨n, _, rfl⟩ := List.mem_map.mp hd
  exact lay_int n
theorem eqvAll_map {α : Type} [DecidableEq α] (f : α → D) (h : ∀ a b, PyData.eqv (f a) (f b) = decide (a = b)) : ∀ xs ys : List α, PyData.eqvAll (xs.map f) (ys.map f) = decide (xs = ys)
  | [], [] => by simp [PyData.eqvAll]
  | [], _ :: _ => by simp [PyData.eqvAll]
  | _ :: _, [] => by simp [PyData.eqvAll]
  | x :: xs, y :: ys => by
    simp only [List.map_cons, PyData.eqvAll, h, eqvAll_map f h xs ys, List.cons.injEq]
    by_cases h1 : x = y <;> by_cases h2 : xs = ys <;> simp [h1, h2]
theorem eqv_tup {α : Type} [DecidableEq α] {f : α → D} (h : ∀ a b, PyData.eqv (f a) (f b) = decide (a = b)) (xs ys : List α) : PyData.eqv (.tuple (xs.map f)) (.tuple (ys.map f)) = decide (xs = ys) := by
  simp only [PyData.eqv]; exact eqvAll_map f h xs ys
theorem eqv_lst {α : Type} [DecidableEq α] {f : α → D} (h : ∀ a b, PyData.eqv (f a) (f b) = decide (a = b)) (xs ys : List α) : PyData.eqv (.list (xs.map f)) (.list (ys.map f)) = decide (xs = ys) := by
  simp only [PyData.eqv]; exact eqvAll_map f h xs ys
theorem eqv_dP (p q : Int × Int) : PyData.eqv (dP p) (dP q) = decide (p = q) := by
  obtain ⟨a, b⟩ := p; obtain ⟨c, d⟩ := q
  simp only [dP, PyData.eqv, PyData.eqvAll, eqv_ii, Prod.mk.injEq, Bool.and_true]
  by_cases h1 : a = c <;> by_cases h2 : b = d <;> simp [h1, h2]
theorem lay_dP (p : Int × Int) : lay 1 (dP p) := lay_tup fun d hd => by
  simp at hd; rcases hd with rfl | rfl <;> exact lay_int _
theorem any_map' {α : Type} [DecidableEq α] {f : α → D} (h : ∀ a b, PyData.eqv (f a) (f b) = decide (a = b)) (xs : List α) (x : α) : ((xs.map f).any fun z => PyData.eqv z (f x)) = decide (x ∈ xs) := by
  induction xs with
  | nil => simp
  | cons y ys ih =>
    simp only [List.map_cons, List.any_cons, h, ih, List.mem_cons]
    by_cases h1 : y = x
    · simp [h1]
    · have : ¬ x = y := fun z => h1 z.symm
      simp [h1, this]
theorem any_map {α : Type} [DecidableEq α] {f : α → D} (h : ∀ a b, PyData.eqv (f a) (f b) = decide (a = b)) (xs : List α) (x : α) [Decidable (x ∈ xs)] : ((xs.map f).any fun z => PyData.eqv z (f x)) = decide (x ∈ xs) := by
  rw [any_map' h]; exact decide_eq_decide.mpr Iff.rfl
theorem inD_pair (p a b : Int) : inD (.int p) (.tuple [.int a, .int b]) = some (.bool (decide (p = a) || decide (p = b))) := by
  have h : okD (.tuple [.int a, .int b]) = true := lay_ok (k := 1) (lay_tup fun d hd => by simp at hd; rcases hd with rfl | rfl <;> exact lay_int _)
  simp only [inD, seqD_t, okD_i, h, and_self, if_true, List.any_cons, List.any_nil, eqv_ii, Bool.or_false]
  congr 3 <;> exact decide_eq_decide.mpr eq_comm
theorem lay_map {α : Type} {k : Nat} {f : α → D} (h : ∀ a, lay k (f a)) (xs : List α) : ∀ d ∈ xs.map f, lay k d := fun d hd => by
  obtain ⟨a, _, rfl⟩ := List.mem_map.mp hd
  exact h a
theorem inD_l {α : Type} [DecidableEq α] {k : Nat} {f : α → D} (h : ∀ a b, PyData.eqv (f a) (f b) = decide (a = b)) (hl : ∀ a, lay k (f a)) (x : α) (xs : List α) (hk : k + 1 ≤ 64 := by decide) [Decidable (x ∈ xs)] : inD (f x) (.list (xs.map f)) = some (.bool (decide (x ∈ xs))) := by
  simp only [inD, seqD_l, lay_ok (hl x) (by omega), lay_ok (lay_lst (lay_map hl xs)) hk, and_self, if_true, any_map h]
theorem inD_t {α : Type} [DecidableEq α] {k : Nat} {f : α → D} (h : ∀ a b, PyData.eqv (f a) (f b) = decide (a = b)) (hl : ∀ a, lay k (f a)) (x : α) (xs : List α) (hk : k + 1 ≤ 64 := by decide) [Decidable (x ∈ xs)] : inD (f x) (.tuple (xs.map f)) = some (.bool (decide (x ∈ xs))) := by
  simp only [inD, seqD_t, lay_ok (hl x) (by omega), lay_ok (lay_tup (lay_map hl xs)) hk, and_self, if_true, any_map h]
theorem notInD_l {α : Type} [DecidableEq α] {k : Nat} {f : α → D} (h : ∀ a b, PyData.eqv (f a) (f b) = decide (a = b)) (hl : ∀ a, lay k (f a)) (x : α) (xs : List α) (hk : k + 1 ≤ 64 := by decide) [Decidable (x ∈ xs)] : notInD (f x) (.list (xs.map f)) = some (.bool (!decide (x ∈ xs))) := by
  simp only [notInD, seqD_l, lay_ok (hl x) (by omega), lay_ok (lay_lst (lay_map hl xs)) hk, and_self, if_true, any_map h]
theorem notInD_t {α : Type} [DecidableEq α] {k : Nat} {f : α → D} (h : ∀ a b, PyData.eqv (f a) (f b) = decide (a = b)) (hl : ∀ a, lay k (f a)) (x : α) (xs : List α) (hk : k + 1 ≤ 64 := by decide) [Decidable (x ∈ xs)] : notInD (f x) (.tuple (xs.map f)) = some (.bool (!decide (x ∈ xs))) := by
  simp only [notInD, seqD_t, lay_ok (hl x) (by omega), lay_ok (lay_tup (lay_map hl xs)) hk, and_self, if_true, any_map h]
theorem eqD_lay {k : Nat} {x y : D} (hx : lay k x) (hy : lay k y) (hk : k ≤ 64 := by decide) : eqD x y = some (.bool (PyData.eqv x y)) := by
  simp [eqD, lay_ok hx hk, lay_ok hy hk]
theorem neD_lay {k : Nat} {x y : D} (hx : lay k x) (hy : lay k y) (hk : k ≤ 64 := by decide) : neD x y = some (.bool (!PyData.eqv x y)) := by
  simp [neD, lay_ok hx hk, lay_ok hy hk]
/-- one statement, then the rest: what is known between them -/
theorem seq_cut {p q : WS} {W : WD} {e : En} (P : En → Prop) (h : ∀ R : En → Prop, (∀ e1, P e1 → R e1) → p { W with nx := R } e) (k : ∀ e1, P e1 → q W e1) : wSeq p q W e := h _ k
theorem forL_inv {g : WG} {b : WS} {W : WD} {xs : List D} (Inv : Nat → En → Prop) {e : En} (h0 : Inv 0 e)
    (hs : ∀ i e x R, xs[i]? = some x → Inv i e → (∀ e', Inv (i + 1) e' → R e') → ∃ e1, g x e = some e1 ∧ b { W with nx := R, ct := R, bk := W.nx } e1) (hend : ∀ e, Inv xs.length e → W.nx e) : forL g b W xs e := by
  have key : ∀ (ys : List D) (i : Nat) (e : En), xs.drop i = ys → i ≤ xs.length → Inv i e → forL g b W ys e := by
    intro ys
    induction ys with
    | nil =>
      intro i e hd hi h
      have : i = xs.length := by
        have := congrArg List.length hd
        simp at this; omega
      subst this
      exact hend e h
    | cons y ys ih =>
      intro i e hd hi h
      have hlt : i < xs.length := by
        have := congrArg List.length hd
        simp at this; omega
      have hx : xs[i]? = some y := by
        have : (xs.drop i)[0]? = some y := by rw [hd]; rfl
        rwa [List.getElem?_drop, Nat.add_zero] at this
      have hd' : xs.drop (i + 1) = ys := by
        rw [← List.drop_drop, hd]; rfl
      exact hs i e y _ hx h fun e' h' => ih (i + 1) e' hd' hlt h'
  exact key xs 0 e rfl (Nat.zero_le _) h0
theorem compL_map {α : Type} {g : WG} {vs : List Nat} {t : WT} {b : WE} {Q : List D → En → Prop} {e : En} {h : α → D} {xs : List α} {acc : List D} (p : α → Bool) (f : α → D)
    (hs : ∀ x ∈ xs, ∃ e1, g (h x) e = some e1 ∧ (∀ R, R (p x) e1 → t e1 R) ∧ (p x = true → ∀ R, R (f x) e1 → b e1 R) ∧ wp e1 vs = e) (hq : Q (acc ++ (xs.filter p).map f) e) : compL g vs t b Q (xs.map h) acc e := by
  induction xs generalizing acc with
  | nil => simp at hq; exact hq
  | cons x xs ih =>
    obtain ⟨e1, h1, h2, h3, h4⟩ := hs x (by simp)
    refine ⟨e1, h1, h2 _ ?_⟩
    cases hp : p x with
    | true =>
      rw [if_pos rfl]
      refine h3 hp _ ?_
      rw [h4]
      exact ih (fun y hy => hs y (by simp [hy])) (by simpa [hp] using hq)
    | false =>
      rw [if_neg (by simp), h4]
      exact ih (fun y hy => hs y (by simp [hy])) (by simpa [hp] using hq)
/-- a comprehension by an invariant of what has been made -/
theorem compL_inv {g : WG} {vs : List Nat} {t : WT} {b : WE} {Q : List D → En → Prop} {xs : List D} (Inv : Nat → List D → En → Prop) {e : En} (h0 : Inv 0 [] e)
    (hs : ∀ i x acc e, xs[i]? = some x → Inv i acc e → ∃ e1, g x e = some e1 ∧ ∀ (R : List D → En → Prop), (∀ acc' e', Inv (i + 1) acc' e' → R acc' e') → t e1 fun c e2 => if c = true then b e2 fun y e3 => R (acc ++ [y]) (wp e3 vs) else R acc (wp e2 vs)) (hq : ∀ acc e, Inv xs.length acc e → Q acc e) : compL g vs t b Q xs [] e := by
  have key : ∀ (ys : List D) (i : Nat) (acc : List D) (e : En), xs.drop i = ys → i ≤ xs.length → Inv i acc e → compL g vs t b Q ys acc e := by
    intro ys
    induction ys with
    | nil =>
      intro i acc e hd hi h
      have : i = xs.length := by
        have := congrArg List.length hd
        simp at this; omega
      subst this
      exact hq acc e h
    | cons y ys ih =>
      intro i acc e hd hi h
      have hlt : i < xs.length := by
        have := congrArg List.length hd
        simp at this; omega
      have hx : xs[i]? = some y := by
        have : (xs.drop i)[0]? = some y := by rw [hd]; rfl
        rwa [List.getElem?_drop, Nat.add_zero] at this
      have hd' : xs.drop (i + 1) = ys := by
        rw [← List.drop_drop, hd]; rfl
      obtain ⟨e1, h1, h2⟩ := hs i y acc e hx h
      exact ⟨e1, h1, h2 _ fun acc' e' h' => ih (i + 1) acc' e' hd' hlt h'⟩
  exact key xs 0 [] e rfl (Nat.zero_le _) h0
def irng (lo hi : Int) : List Int := (List.range (hi - lo).toNat).map fun (i : Nat) => lo + (i : Int)
theorem rangeD_ints (lo hi : Int) : rangeD lo hi = (irng lo hi).map .int := by
  unfold rangeD irng; rw [List.map_map]; rfl
theorem mem_ints {lo hi i : Int} : i ∈ irng lo hi ↔ lo ≤ i ∧ i < hi := by
  unfold irng
  constructor
  · intro h
    obtain ⟨k, hk, rfl⟩ := List.mem_map.mp h
    have := List.mem_range.mp hk
    omega
  · intro h
    exact List.mem_map.mpr ⟨(i - lo).toNat, List.mem_range.mpr (by omega), by omega⟩
theorem ints_len (lo hi : Int) : (irng lo hi).length = (hi - lo).toNat := by simp [irng]
theorem ints_get {lo hi : Int} {k : Nat} (h : k < (hi - lo).toNat) : (irng lo hi)[k]? = some (lo + (k : Int)) := by
  unfold irng
  rw [List.getElem?_map, List.getElem?_range h]; rfl
theorem ints_sorted (lo hi : Int) : (irng lo hi).Pairwise (· < ·) := by
  unfold irng
  rw [List.pairwise_map]
  exact (List.pairwise_lt_range).imp fun h => by omega
end G7

set_option maxRecDepth 100000
namespace G7
open PySem PySem.Spec PyProof.Rows L2
end G7

set_option maxRecDepth 100000
namespace G7
open PySem PySem.Spec PyProof.Rows L2
/-- the items of t[lo:hi:-1] -/
def pickR {α : Type} (xs : List α) (lo hi : Option Int) : List α :=
  (List.range (Builtin.Slice.slicePlaces (Builtin.Slice.sliceAdjust lo hi (-1) xs.length).1 (Builtin.Slice.sliceAdjust lo hi (-1) xs.length).2 (-1))).filterMap fun (k : Nat) => xs[((Builtin.Slice.sliceAdjust lo hi (-1) xs.length).1 + (k : Int) * (-1)).toNat]?
section
variable {X : Cx}
variable {κ : List SK} {M : List Nat} {k : RK} {w : WE} {e : Expr}
def revTD : D → Option Int → Option Int → Option D
  | .tuple xs, lo, hi => some (.tuple (pickR xs lo hi))
  | .dict [(.none, .tuple xs)], lo, hi => some (.tuple (pickR xs lo hi))
  | _, _, _ => none
end
theorem pickR_all {α : Type} (xs : List α) : pickR xs none none = xs.reverse := by
  unfold pickR
  have e1 : Builtin.Slice.sliceAdjust none none (-1) xs.length = ((xs.length : Int) - 1, -1) := by simp [Builtin.Slice.sliceAdjust]
  rw [e1]
  have e2 : Builtin.Slice.slicePlaces ((xs.length : Int) - 1) (-1) (-1) = xs.length := by
    unfold Builtin.Slice.slicePlaces
    simp
    split <;> omega
  simp only [e2]
  refine List.ext_getElem? fun i => ?_
  have : ∀ n : Nat, n ≤ xs.length → ((List.range n).filterMap fun (k : Nat) => xs[((xs.length : Int) - 1 + (k : Int) * (-1)).toNat]?) = (xs.reverse.take n) := by
    intro n
    induction n with
    | zero => intro _; rfl
    | succ n ih =>
      intro h
      rw [List.range_succ, List.filterMap_append, ih (by omega)]
      have hi : n < xs.reverse.length := by rw [List.length_reverse]; omega
      rw [List.take_succ_eq_append_getElem hi]
      congr 1
      have : ((xs.length : Int) - 1 + (n : Int) * (-1)).toNat = xs.length - 1 - n := by omega
      simp only [List.filterMap_cons, List.filterMap_nil, this]
      rw [List.getElem?_eq_getElem (by omega), List.getElem_reverse]
  rw [this xs.length (Nat.le_refl _), List.take_of_length_le (by rw [List.length_reverse]; exact Nat.le_refl _)]
theorem revT_m {α : Type} {f : α → D} {l : List α} : revTD (.tuple (l.map f)) none none = some (.tuple (l.reverse.map f)) := by
  simp only [revTD, pickR_all, List.map_reverse]
end G7

namespace G7
open PySem

section
variable {e : En} {i j : Nat} {d x y : D} {Q : D → En → Prop} {QT : Bool → En → Prop} {QA : List D → En → Prop} {QO : Option Int → En → Prop} {QI : List D → En → Prop}
  {nx bk ct : En → Prop} {rt : D → En → Prop} {a b c : WE} {r : WA} {s t : WT} {f h : D → D → Option D} {f1 : D → Option D} {fl : List D → Option D} {S : FS} {g : WG} {lo hi : WO} {p q : WS} {it : WI}
theorem i_seq (k : p ⟨fun e1 => q ⟨nx, rt, bk, ct⟩ e1, rt, bk, ct⟩ e) : wSeq p q ⟨nx, rt, bk, ct⟩ e := k
theorem i_asg (k : a e fun x e1 => nx (e1.set i (some x))) : wAsg i a ⟨nx, rt, bk, ct⟩ e := k
theorem i_asgG (k : a e fun x e1 => ∃ e2, g x e1 = some e2 ∧ nx e2) : wAsgG g a ⟨nx, rt, bk, ct⟩ e := k
theorem i_asgP (k : a e fun d e1 => ∃ x y z : Int, d = .list [.int x, .int y, .int z] ∧ nx (e1.set i (some .none))) : wAsgP i a ⟨nx, rt, bk, ct⟩ e := k
theorem i_expr (k : a e fun _ e1 => nx e1) : wExpr a ⟨nx, rt, bk, ct⟩ e := k
theorem i_ret (k : a e rt) : wRet a ⟨nx, rt, bk, ct⟩ e := k
theorem i_retN (k : rt .none e) : wRetN ⟨nx, rt, bk, ct⟩ e := k
theorem i_if (k : t e fun c e1 => if c = true then p ⟨nx, rt, bk, ct⟩ e1 else q ⟨nx, rt, bk, ct⟩ e1) : wIf t p q ⟨nx, rt, bk, ct⟩ e := k
theorem i_nil (k : nx e) : wNil ⟨nx, rt, bk, ct⟩ e := k
theorem i_brk (k : bk e) : wBreak ⟨nx, rt, bk, ct⟩ e := k
theorem i_cnt (k : ct e) : wCont ⟨nx, rt, bk, ct⟩ e := k
theorem i_for (k : it e fun xs e1 => forL g p ⟨nx, rt, bk, ct⟩ xs e1) : wFor it g p ⟨nx, rt, bk, ct⟩ e := k
theorem i_var (h : e[i]? = some (some d)) (k : Q d e) : wVar i e Q := ⟨d, h, k⟩
theorem i_c (k : Q d e) : wC d e Q := k
theorem i_op1 (k : a e fun x e1 => ∃ z, f1 x = some z ∧ Q z e1) : wOp1 f1 a e Q := k
theorem i_op2 (k : a e fun x e1 => b e1 fun y e2 => ∃ z, f x y = some z ∧ Q z e2) : wOp2 f a b e Q := k
theorem i_anil (k : QA [] e) : waNil e QA := k
theorem i_acons (k : a e fun x e1 => r e1 fun xs e2 => QA (x :: xs) e2) : waCons a r e QA := k
theorem i_list (k : r e fun xs e1 => xs.length ≤ 1000000 ∧ Q (.list xs) e1) : wList r e Q := k
theorem i_tup (k : r e fun xs e1 => xs.length ≤ 1000000 ∧ Q (.tuple xs) e1) : wTup r e Q := k
theorem i_call (k : r e fun xs e1 => S xs fun r => Q r e1) : wCall S r e Q := k
theorem i_blt (k : r e fun xs e1 => ∃ z, fl xs = some z ∧ Q z e1) : wBlt fl r e Q := k
theorem i_on (k : QO none e) : woN e QO := k
theorem i_os (k : a e fun x e1 => ∃ i, x = .int i ∧ QO (some i) e1) : woS a e QO := k
theorem i_sl {h : D → Option Int → Option Int → Option D} (k : a e fun x e1 => lo e1 fun l e2 => hi e2 fun u e3 => ∃ z, h x l u = some z ∧ Q z e3) : wSl h a lo hi e Q := k
theorem i_val (k : a e fun x e1 => ∃ b, x = .bool b ∧ QT b e1) : tVal a e QT := k
theorem i_tand (k : s e fun b e1 => if b = true then t e1 QT else QT false e1) : tAnd s t e QT := k
theorem i_tor (k : s e fun b e1 => if b = true then QT true e1 else t e1 QT) : tOr s t e QT := k
theorem i_tnot (k : s e fun b e1 => QT (!b) e1) : tNot s e QT := k
theorem i_yes (k : QT true e) : G7.tYes e QT := k
theorem i_and (k : a e fun x e1 => ∃ c, x = .bool c ∧ if c = true then b e1 Q else Q (.bool false) e1) : wAnd a b e Q := k
theorem i_or (k : a e fun x e1 => ∃ c, x = .bool c ∧ if c = true then Q (.bool true) e1 else b e1 Q) : wOr a b e Q := k
theorem i_not (k : a e fun x e1 => ∃ c, x = .bool c ∧ Q (.bool (!c)) e1) : wNot a e Q := k
theorem i_ife (k : t e fun c e1 => if c = true then a e1 Q else b e1 Q) : wIfE t a b e Q := k
theorem i_chain (k : a e fun x e1 => b e1 fun y e2 => ∃ k, f x y = some (.bool k) ∧ if k = true then c e2 fun z e3 => ∃ r, h y z = some r ∧ Q r e3 else Q (.bool false) e2) : wChain f h a b c e Q := k
theorem i_iseq (k : a e fun x e1 => ∃ xs, seqD x = some xs ∧ QI xs e1) : wiSeq a e QI := k
theorem i_irg1 (k : a e fun x e1 => ∃ n : Int, x = .int n ∧ (-1000000 ≤ n ∧ n ≤ 1000000) ∧ QI ((irng 0 n).map .int) e1) : wiRg1 a e QI := by
  show a e _
  refine cast ?_ k
  congr 1
  funext x e1
  apply propext
  constructor
  · rintro ⟨n, h, h1, h2⟩; exact ⟨n, h, h1.1, h1.2, by rw [rangeD_ints]; exact h2⟩
  · rintro ⟨n, h, h1, h2, h3⟩; exact ⟨n, h, ⟨h1, h2⟩, by rw [rangeD_ints] at h3; exact h3⟩
theorem i_irg2 (k : a e fun x e1 => b e1 fun y e2 => ∃ m n : Int, x = .int m ∧ y = .int n ∧ (-1000000 ≤ m ∧ m ≤ 1000000 ∧ -1000000 ≤ n ∧ n ≤ 1000000) ∧ QI ((irng m n).map .int) e2) : wiRg2 a b e QI := by
  show a e _
  refine cast ?_ k
  congr 1
  funext x e1
  congr 1
  funext y e2
  apply propext
  constructor
  · rintro ⟨m, n, h, h', h1, h2⟩; exact ⟨m, n, h, h', h1.1, h1.2.1, h1.2.2.1, h1.2.2.2, by rw [rangeD_ints]; exact h2⟩
  · rintro ⟨m, n, h, h', h1, h2, h3, h4, h5⟩; exact ⟨m, n, h, h', ⟨h1, h2, h3, h4⟩, by rw [rangeD_ints] at h5; exact h5⟩
def zipK (QI : List D → En → Prop) (x y : D) (e : En) : Prop := ∃ xs ys, sameK x y = true ∧ seqD x = some xs ∧ seqD y = some ys ∧ QI (zipD xs ys) e
def enumK (QI : List D → En → Prop) (x : D) (e : En) : Prop := ∃ xs, seqD x = some xs ∧ QI (enumD xs) e
def lstZK (Q : D → En → Prop) (x y : D) (e : En) : Prop := ∃ xs ys, seqD x = some xs ∧ seqD y = some ys ∧ Q (.list (zipD xs ys)) e
theorem i_izip (k : a e fun x e1 => b e1 fun y e2 => zipK QI x y e2) : wiZip2 a b e QI := k
theorem i_ienum (k : a e fun x e1 => enumK QI x e1) : wiEnum a e QI := k
theorem i_irev (k : a e fun x e1 => ∃ xs, seqD x = some xs ∧ QI xs.reverse e1) : wiRev a e QI := k
def mutK (i : Nat) (F : List D → List D → Option (D × List D)) (Q : D → En → Prop) (ys : List D) (e : En) : Prop := ∃ xs z xs', e[i]? = some (some (.list xs)) ∧ F xs ys = some (z, xs') ∧ Q z (e.set i (some (.list xs')))
theorem i_mut {F : List D → List D → Option (D × List D)} {l : List D} (h : e[i]? = some (some (.list l))) (k : r e fun ys e1 => mutK i F Q ys e1) : wMut i F r e Q := ⟨⟨_, h⟩, k⟩
theorem i_mut1 {F : List D → List D → Option (D × List D)} {l l' ys : List D} {z : D} (h : e[i]? = some (some (.list l))) (hf : F l ys = some (z, l')) (k : Q z (e.set i (some (.list l')))) : mutK i F Q ys e := ⟨_, _, _, h, hf, k⟩
theorem i_plix (h : e[i]? = some (some .none)) (k : ∀ x : Int, Q (.int x) e) : wPlIx i e Q := ⟨h, k⟩
theorem i_plset (k : a e fun d e1 => ∃ y : Int, d = .int y ∧ e1[i]? = some (some .none) ∧ nx e1) : wPlSet i a ⟨nx, rt, bk, ct⟩ e := k
theorem i_np (k : a e fun d e1 => ∃ x y z : Int, d = .list [.int x, .int y, .int z] ∧ Q .none e1) : wNp a e Q := k
theorem i_lstrg (k : it e fun xs e1 => Q (.list xs) e1) : wLstRg it e Q := k
theorem i_comp {vs : List Nat} (k : it e fun xs e1 => compL g vs t b (fun acc e2 => Q (.list acc) (back e1 e2 vs)) xs [] (wp e1 vs)) : wComp it g vs t b e Q := k
def setK (i : Nat) (nx : En → Prop) (y j : D) (e : En) : Prop := ∃ k xs m, j = .int k ∧ e[i]? = some (some (.list xs)) ∧ ixN xs.length k = some m ∧ nx (e.set i (some (.list (xs.set m y))))
def setK0 (i : Nat) (b : WE) (nx : En → Prop) (y : D) (e : En) : Prop := (∃ xs, e[i]? = some (some (.list xs))) ∧ b e fun j e2 => setK i nx y j e2
theorem i_setix (k : a e fun y e1 => setK0 i b nx y e1) : wSetIx i a b ⟨nx, rt, bk, ct⟩ e := k
theorem i_setix0 {l : List D} {y : D} (h : e[i]? = some (some (.list l))) (k : b e fun j e2 => setK i nx y j e2) : setK0 i b nx y e := ⟨⟨_, h⟩, k⟩
theorem i_setixm {α : Type} {f : α → D} {L : List α} {v : α} {k : Int} (h : e[i]? = some (some (.list (L.map f)))) (h0 : 0 ≤ k) (h1 : k < (L.length : Int)) (q : nx (e.set i (some (.list ((L.set k.toNat v).map f))))) : setK i nx (f v) (.int k) e := by
  refine ⟨k, _, k.toNat, rfl, h, ?_, by rw [List.map_set] at q; exact q⟩
  simp [ixN, h0, h1]
theorem i_asO {d : D} (h : e[i]? = some (some d)) (nt : NT d) (k : p ⟨nx, rt, bk, ct⟩ e) : wAsO i p ⟨nx, rt, bk, ct⟩ e := ⟨fun d' h' => by rw [h] at h'; cases h'; exact nt, k⟩
theorem i_asV {d : D} (h : e[i]? = some (some (.tuple [d]))) (k : p ⟨fun e => nx (toF i e), fun d e => rt d (toF i e), fun e => bk (toF i e), fun e => ct (toF i e)⟩ (e.set i (some d))) : wAsV i p ⟨nx, rt, bk, ct⟩ e := ⟨d, h, k⟩
theorem i_frz {d : D} (h : e[i]? = some (some d)) (nt : NT d) (k : p ⟨nx, rt, bk, ct⟩ (e.set i (some (.tuple [d])))) : wFrz i p ⟨nx, rt, bk, ct⟩ e := ⟨d, h, nt, k⟩
theorem i_par2 {a b : D} {R : D → D → Prop} (k : R a b) : ∃ x y, [a, b] = [x, y] ∧ R x y := ⟨a, b, rfl, k⟩
theorem i_disp1 (k : a e fun x e1 => b e1 fun y e2 => (∃ k, keyOf x = some k) ∧ Q (.dict [(x, y)]) e2) : wDisp1 a b e Q := k
theorem i_keyI {i : Int} {R : Prop} (k : R) : (∃ k, keyOf (.int i) = some k) ∧ R := ⟨⟨_, rfl⟩, k⟩
theorem i_lstZ (k : a e fun x e1 => b e1 fun y e2 => lstZK Q x y e2) : wLstZip a b e Q := k
theorem i_T {A B : Prop} (k : A) : if true = true then A else B := k
theorem i_F {A B : Prop} (k : B) : if false = true then A else B := k
theorem i_dT {P A B : Prop} {_ : Decidable P} (h : P) (k : A) : if decide P = true then A else B := by rw [if_pos (by simpa using h)]; exact k
theorem i_dF {P A B : Prop} {_ : Decidable P} (h : ¬ P) (k : B) : if decide P = true then A else B := by rw [if_neg (by simpa using h)]; exact k
theorem i_ndT {P A B : Prop} {_ : Decidable P} (h : ¬ P) (k : A) : if (!decide P) = true then A else B := by rw [if_pos (by simpa using h)]; exact k
theorem i_ndF {P A B : Prop} {_ : Decidable P} (h : P) (k : B) : if (!decide P) = true then A else B := by rw [if_neg (by simpa using h)]; exact k
theorem i_bT {A B : Prop} {c : Bool} (h : c = true) (k : A) : if c = true then A else B := by rw [if_pos h]; exact k
theorem i_bF {A B : Prop} {c : Bool} (h : c = false) (k : B) : if c = true then A else B := by rw [if_neg (by simp [h])]; exact k
theorem i_ex {o : Option D} {z : D} {R : D → Prop} (h : o = some z) (k : R z) : ∃ z, o = some z ∧ R z := ⟨z, h, k⟩
theorem i_exb {z : Bool} {R : Bool → Prop} (k : R z) : ∃ b, PyData.bool z = .bool b ∧ R b := ⟨z, rfl, k⟩
theorem i_exi {z : Int} {R : Int → Prop} (k : R z) : ∃ b, PyData.int z = .int b ∧ R b := ⟨z, rfl, k⟩
theorem i_exk {o : Option D} {z : Bool} {R : Bool → Prop} (h : o = some (.bool z)) (k : R z) : ∃ b, o = some (.bool b) ∧ R b := ⟨z, h, k⟩
theorem i_exl {x : D} {z : List D} {R : List D → Prop} (h : seqD x = some z) (k : R z) : ∃ xs, seqD x = some xs ∧ R xs := ⟨z, h, k⟩
theorem i_rg1 {m : Int} {B : Int → Prop} {R : Int → Prop} (h : B m) (k : R m) : ∃ n : Int, PyData.int m = .int n ∧ B n ∧ R n := ⟨m, rfl, h, k⟩
theorem i_rg2 {m n : Int} {B : Int → Int → Prop} {R : Int → Int → Prop} (h : B m n) (k : R m n) : ∃ m' n' : Int, PyData.int m = .int m' ∧ PyData.int n = .int n' ∧ B m' n' ∧ R m' n' := ⟨m, n, rfl, rfl, h, k⟩
theorem i_len {xs : List D} {R : Prop} (h : xs.length ≤ 1000000) (k : R) : xs.length ≤ 1000000 ∧ R := ⟨h, k⟩
theorem i_g {o : Option En} {e2 : En} {R : En → Prop} (h : o = some e2) (k : R e2) : ∃ e2, o = some e2 ∧ R e2 := ⟨e2, h, k⟩
end
abbrev LI (l : List Int) : D := .list (l.map .int)
abbrev TI (l : List Int) : D := .tuple (l.map .int)
abbrev LP (l : List (Int × Int)) : D := .list (l.map dP)
abbrev TP (l : List (Int × Int)) : D := .tuple (l.map dP)
theorem powD_6 : powD (.int 10) (.int 6) = some (.int 1000000) := by simp [powD]
theorem powD_16 : powD (.int 10) (.int 16) = some (.int 10000000000000000) := by simp [powD]
theorem powD_18 : powD (.int 10) (.int 18) = some (.int 1000000000000000000) := by simp [powD]
theorem isTD_i {T : String} {i : Int} : isTD T (.int i) = some (.bool (isT T "int")) := rfl
theorem isTD_t (T : String) (xs : List D) : isTD T (.tuple xs) = some (.bool (isT T "tuple")) := rfl
theorem isTD_l (T : String) (xs : List D) : isTD T (.list xs) = some (.bool (isT T "list")) := rfl
theorem isTD_s (T : String) (x : Str) : isTD T (.str x) = some (.bool (isT T "str")) := rfl
theorem isTD_b (T : String) (b : Bool) : isTD T (.bool b) = some (.bool (isT T "bool")) := rfl
theorem isTD_n (T : String) : isTD T .none = some (.bool (isT T "NoneType")) := rfl
theorem isD_bb (a b : Bool) : isD (.bool a) (.bool b) = some (.bool (a == b)) := rfl
theorem isNotD_bb (a b : Bool) : isNotD (.bool a) (.bool b) = some (.bool (!(a == b))) := rfl
theorem isD_n' (u : Unit) : isD .none .none = some (.bool true) := rfl
theorem isD_lN (xs : List D) : isD (.list xs) .none = some (.bool false) := rfl
theorem isD_tN (xs : List D) : isD (.tuple xs) .none = some (.bool false) := rfl
theorem isNotD_lN (xs : List D) : isNotD (.list xs) .none = some (.bool true) := rfl
theorem isNotD_tN (xs : List D) : isNotD (.tuple xs) .none = some (.bool true) := rfl
theorem lenD_lm {α : Type} {f : α → D} {L : List α} : lenD [.list (L.map f)] = some (.int (L.length : Int)) := by simp [lenD]
theorem lenD_tm {α : Type} {f : α → D} {L : List α} : lenD [.tuple (L.map f)] = some (.int (L.length : Int)) := by simp [lenD]
theorem eqD_li (a b : List Int) : eqD (.list (a.map .int)) (.list (b.map .int)) = some (.bool (decide (a = b))) := by
  rw [eqD_lay (lay_lst (lay_ints a (k := 0))) (lay_lst (lay_ints b (k := 0))), eqv_lst eqv_ii]
theorem eqD_ti (a b : List Int) : eqD (.tuple (a.map .int)) (.tuple (b.map .int)) = some (.bool (decide (a = b))) := by
  rw [eqD_lay (lay_tup (lay_ints a (k := 0))) (lay_tup (lay_ints b (k := 0))), eqv_tup eqv_ii]
theorem neD_li (a b : List Int) : neD (.list (a.map .int)) (.list (b.map .int)) = some (.bool (!decide (a = b))) := by
  rw [neD_lay (lay_lst (lay_ints a (k := 0))) (lay_lst (lay_ints b (k := 0))), eqv_lst eqv_ii]
theorem neD_ti (a b : List Int) : neD (.tuple (a.map .int)) (.tuple (b.map .int)) = some (.bool (!decide (a = b))) := by
  rw [neD_lay (lay_tup (lay_ints a (k := 0))) (lay_tup (lay_ints b (k := 0))), eqv_tup eqv_ii]
theorem neD_l0 (a : List Int) : neD (.list (a.map .int)) (.list []) = some (.bool (!decide (a = []))) := neD_li a []
theorem eqD_l0 (a : List Int) : eqD (.list (a.map .int)) (.list []) = some (.bool (decide (a = []))) := eqD_li a []
theorem eqD_lp (a b : List (Int × Int)) : eqD (.list (a.map dP)) (.list (b.map dP)) = some (.bool (decide (a = b))) := by
  rw [eqD_lay (lay_lst (lay_map lay_dP a)) (lay_lst (lay_map lay_dP b)), eqv_lst eqv_dP]
theorem neD_lp (a b : List (Int × Int)) : neD (.list (a.map dP)) (.list (b.map dP)) = some (.bool (!decide (a = b))) := by
  rw [neD_lay (lay_lst (lay_map lay_dP a)) (lay_lst (lay_map lay_dP b)), eqv_lst eqv_dP]
theorem eqD_tp (a b : List (Int × Int)) : eqD (.tuple (a.map dP)) (.tuple (b.map dP)) = some (.bool (decide (a = b))) := by
  rw [eqD_lay (lay_tup (lay_map lay_dP a)) (lay_tup (lay_map lay_dP b)), eqv_tup eqv_dP]
theorem neD_tp (a b : List (Int × Int)) : neD (.tuple (a.map dP)) (.tuple (b.map dP)) = some (.bool (!decide (a = b))) := by
  rw [neD_lay (lay_tup (lay_map lay_dP a)) (lay_tup (lay_map lay_dP b)), eqv_tup eqv_dP]
theorem inD_li (x : Int) (xs : List Int) : inD (.int x) (.list (xs.map .int)) = some (.bool (decide (x ∈ xs))) := inD_l (k := 0) eqv_ii (fun i => lay_int i) x xs
theorem inD_ti (x : Int) (xs : List Int) : inD (.int x) (.tuple (xs.map .int)) = some (.bool (decide (x ∈ xs))) := inD_t (k := 0) eqv_ii (fun i => lay_int i) x xs
theorem notInD_li (x : Int) (xs : List Int) : notInD (.int x) (.list (xs.map .int)) = some (.bool (!decide (x ∈ xs))) := notInD_l (k := 0) eqv_ii (fun i => lay_int i) x xs
theorem notInD_ti (x : Int) (xs : List Int) : notInD (.int x) (.tuple (xs.map .int)) = some (.bool (!decide (x ∈ xs))) := notInD_t (k := 0) eqv_ii (fun i => lay_int i) x xs
theorem inD_lp (x : Int × Int) (xs : List (Int × Int)) : inD (dP x) (.list (xs.map dP)) = some (.bool (decide (x ∈ xs))) := inD_l eqv_dP lay_dP x xs
theorem inD_tp (x : Int × Int) (xs : List (Int × Int)) : inD (dP x) (.tuple (xs.map dP)) = some (.bool (decide (x ∈ xs))) := inD_t eqv_dP lay_dP x xs
theorem notInD_lp (x : Int × Int) (xs : List (Int × Int)) : notInD (dP x) (.list (xs.map dP)) = some (.bool (!decide (x ∈ xs))) := notInD_l eqv_dP lay_dP x xs
theorem notInD_tp (x : Int × Int) (xs : List (Int × Int)) : notInD (dP x) (.tuple (xs.map dP)) = some (.bool (!decide (x ∈ xs))) := notInD_t eqv_dP lay_dP x xs
theorem inD_lp' (a b : Int) (xs : List (Int × Int)) : inD (.tuple [.int a, .int b]) (.list (xs.map dP)) = some (.bool (decide ((a, b) ∈ xs))) := inD_lp (a, b) xs
theorem inD_tp' (a b : Int) (xs : List (Int × Int)) : inD (.tuple [.int a, .int b]) (.tuple (xs.map dP)) = some (.bool (decide ((a, b) ∈ xs))) := inD_tp (a, b) xs
theorem notInD_lp' (a b : Int) (xs : List (Int × Int)) : notInD (.tuple [.int a, .int b]) (.list (xs.map dP)) = some (.bool (!decide ((a, b) ∈ xs))) := notInD_lp (a, b) xs
theorem notInD_tp' (a b : Int) (xs : List (Int × Int)) : notInD (.tuple [.int a, .int b]) (.tuple (xs.map dP)) = some (.bool (!decide ((a, b) ∈ xs))) := notInD_tp (a, b) xs
theorem addD_lm {α : Type} {f : α → D} {a b : List α} (h : a.length + b.length ≤ 1000000) : addD (.list (a.map f)) (.list (b.map f)) = some (.list ((a ++ b).map f)) := by
  rw [List.map_append]; exact addD_l (by simpa using h)
theorem addD_tm {α : Type} {f : α → D} {a b : List α} (h : a.length + b.length ≤ 1000000) : addD (.tuple (a.map f)) (.tuple (b.map f)) = some (.tuple ((a ++ b).map f)) := by
  rw [List.map_append]; exact addD_t (by simpa using h)
theorem addD_tm1 {α : Type} {f : α → D} {a : List α} {x : α} (h : a.length < 1000000) : addD (.tuple (a.map f)) (.tuple [f x]) = some (.tuple ((a ++ [x]).map f)) := addD_tm (b := [x]) (by simp; omega)
theorem addLD_lm {α : Type} {f : α → D} {a b : List α} (h : a.length + b.length ≤ 1000000) : addLD (.list (a.map f)) (.list (b.map f)) = some (.list ((a ++ b).map f)) := by
  rw [List.map_append]; exact addLD_ok (by simpa using h)
theorem addD_1m {α : Type} {f : α → D} {x : α} {b : List α} (h : b.length ≤ 1000) : addD (.list [f x]) (.list (b.map f)) = some (.list ((x :: b).map f)) := addD_lm (a := [x]) (by simp; omega)
theorem repLD_0 {x n : Int} (h0 : -1000 ≤ n) (h1 : n ≤ 1000) : repLD (.list [.int x]) (.int n) = some (LI (List.replicate n.toNat x)) := by
  simp only [repLD, List.length_cons, List.length_nil, h0, h1, LI, List.map_replicate]
  rw [if_pos (by simp)]
  congr 2
  induction n.toNat with
  | zero => rfl
  | succ k ih => rw [List.replicate_succ, List.replicate_succ, List.flatten_cons, ih]; rfl
theorem appendF_m {α : Type} {f : α → D} {a : List α} {x : α} (h : a.length < 1000000) : appendF (a.map f) [f x] = some (.none, (a ++ [x]).map f) := by
  rw [appendF_ok (by simpa using h)]; simp
theorem extendF_m {α : Type} {f : α → D} {a b : List α} (h : a.length + b.length ≤ 1000000) : extendF (a.map f) [.list (b.map f)] = some (.none, (a ++ b).map f) := by
  rw [extendF_ok (by simpa using h)]; simp
theorem cut_to' {α : Type} {f : α → D} {L : List α} {c : Int} (h : 0 ≤ c) : cut (L.map f) none (some c) = (L.take c.toNat).map f := by
  simp only [cut, HT.sIx, Int.not_lt.mpr h]
  simp
theorem cut_from' {α : Type} {f : α → D} {L : List α} {c : Int} (h : 0 ≤ c) : cut (L.map f) (some c) none = (L.drop c.toNat).map f := by
  simp only [cut, HT.sIx, Int.not_lt.mpr h, if_false, List.length_map, ← List.map_drop]
  rw [List.take_of_length_le (by simp)]
  by_cases e : c.toNat ≤ L.length
  · rw [Nat.min_eq_left e]
  · rw [Nat.min_eq_right (by omega), List.drop_eq_nil_of_le (Nat.le_refl _), List.drop_eq_nil_of_le (by omega)]
theorem slT_tom {α : Type} {f : α → D} {L : List α} {c : Int} (h : 0 ≤ c) : slD (.tuple (L.map f)) none (some c) = some (.tuple ((L.take c.toNat).map f)) := by simp only [slD, cut_to' h]
theorem slT_frm {α : Type} {f : α → D} {L : List α} {c : Int} (h : 0 ≤ c) : slD (.tuple (L.map f)) (some c) none = some (.tuple ((L.drop c.toNat).map f)) := by simp only [slD, cut_from' h]
theorem slL_tom {α : Type} {f : α → D} {L : List α} {c : Int} (h : 0 ≤ c) : slD (.list (L.map f)) none (some c) = some (.list ((L.take c.toNat).map f)) := by simp only [slD, cut_to' h]
theorem slL_frm {α : Type} {f : α → D} {L : List α} {c : Int} (h : 0 ≤ c) : slD (.list (L.map f)) (some c) none = some (.list ((L.drop c.toNat).map f)) := by simp only [slD, cut_from' h]
theorem slL_m1 {α : Type} {f : α → D} {L : List α} : slD (.list (L.map f)) none (some (-1)) = some (.list (L.dropLast.map f)) := by
  have e1 : HT.sIx (L.map f).length (L.map f).length (some (-1)) = L.length - 1 := by simp [HT.sIx]; omega
  have e0 : HT.sIx (L.map f).length 0 none = 0 := rfl
  simp only [slD, cut, e1, e0, List.drop_zero, Nat.sub_zero]
  rw [← List.map_take, List.dropLast_eq_take]
/-- reading a row at a place -/
theorem ixN_int {n : Nat} {i : Int} (h0 : 0 ≤ i) (h1 : i < n) : ixN n i = some i.toNat := by simp [ixN, h0, h1]
theorem ixD_lm {α : Type} [Inhabited α] {f : α → D} {L : List α} {i : Int} (h0 : 0 ≤ i) (h1 : i < (L.length : Int)) : ixD (.list (L.map f)) (.int i) = some (f L[i.toNat]!) := by
  have h : i.toNat < L.length := by omega
  simp [ixD, ixN_int h0 (n := L.length) h1, h, getElem!_pos]
theorem ixD_tm {α : Type} [Inhabited α] {f : α → D} {L : List α} {i : Int} (h0 : 0 ≤ i) (h1 : i < (L.length : Int)) : ixD (.tuple (L.map f)) (.int i) = some (f L[i.toNat]!) := by
  have h : i.toNat < L.length := by omega
  simp [ixD, ixN_int h0 (n := L.length) h1, h, getElem!_pos]
theorem ixD_l0m {α : Type} {f : α → D} {x : α} {xs : List α} : ixD (.list ((x :: xs).map f)) (.int 0) = some (f x) := ixD_l0 _ _
theorem ixD_t0m {α : Type} {f : α → D} {x : α} {xs : List α} : ixD (.tuple ((x :: xs).map f)) (.int 0) = some (f x) := ixD_t0 _ _
theorem okD_s {a : Str} (h : PyData.canLay0 (.str a) = true) : okD (.str a) = true := by simp [okD, SeqAt.shaped, h, PyData.depth]
theorem eqD_s {a b : Str} (ha : PyData.canLay0 (.str a) = true) (hb : PyData.canLay0 (.str b) = true) : eqD (.str a) (.str b) = some (.bool (a == b)) := by
  simp [eqD, okD_s ha, okD_s hb, PyData.eqv]
theorem neD_s {a b : Str} (ha : PyData.canLay0 (.str a) = true) (hb : PyData.canLay0 (.str b) = true) : neD (.str a) (.str b) = some (.bool (!(a == b))) := by
  simp [neD, okD_s ha, okD_s hb, PyData.eqv]
theorem eqD_sT {a : Str} (ha : PyData.canLay0 (.str a) = true := by decide +kernel) : eqD (.str a) (.str a) = some (.bool true) := by rw [eqD_s ha ha]; simp
theorem eqD_sF {a b : Str} (h : (PyData.canLay0 (.str a) && PyData.canLay0 (.str b) && !(a == b)) = true := by decide +kernel) : eqD (.str a) (.str b) = some (.bool false) := by
  simp only [Bool.and_eq_true, Bool.not_eq_true'] at h
  rw [eqD_s h.1.1 h.1.2, h.2]
theorem neD_sT {a : Str} (ha : PyData.canLay0 (.str a) = true := by decide +kernel) : neD (.str a) (.str a) = some (.bool false) := by rw [neD_s ha ha]; simp
theorem neD_sF {a b : Str} (h : (PyData.canLay0 (.str a) && PyData.canLay0 (.str b) && !(a == b)) = true := by decide +kernel) : neD (.str a) (.str b) = some (.bool true) := by
  simp only [Bool.and_eq_true, Bool.not_eq_true'] at h
  rw [neD_s h.1.1 h.1.2, h.2]; rfl
theorem dP_0 (p : Int × Int) : ixD (dP p) (.int 0) = some (.int p.1) := rfl
theorem dP_1 (p : Int × Int) : ixD (dP p) (.int 1) = some (.int p.2) := rfl
abbrev gI (l : List Int) (i : Int) : Int := l[i.toNat]!
theorem gI_mem {l : List Int} {k : Int} (h0 : 0 ≤ k) (h1 : k < (l.length : Int)) : gI l k ∈ l := by
  unfold gI
  rw [getElem!_pos l k.toNat (by omega)]
  exact List.getElem_mem _
theorem gI_set {l : List Int} {i j v : Int} (h0 : 0 ≤ i) (h1 : i < (l.length : Int)) (h2 : 0 ≤ j) : gI (l.set i.toNat v) j = if j = i then v else gI l j := by
  unfold gI
  rw [List.getElem!_eq_getElem?_getD, List.getElem!_eq_getElem?_getD]
  by_cases c : j = i
  · subst c
    rw [if_pos rfl, List.getElem?_set_self (by omega)]; rfl
  · rw [if_neg c, List.getElem?_set_ne (by omega)]
theorem gI_map {l : List Int} {f : Int → Int} {j : Int} (h0 : 0 ≤ j) (h1 : j < (l.length : Int)) : gI (l.map f) j = f (gI l j) := by
  unfold gI
  rw [List.getElem!_eq_getElem?_getD, List.getElem!_eq_getElem?_getD, List.getElem?_map, List.getElem?_eq_getElem (by omega)]; rfl
theorem gI_irng {n j : Int} (h0 : 0 ≤ j) (h1 : j < n) : gI (irng 0 n) j = j := by
  unfold gI
  rw [List.getElem!_eq_getElem?_getD, ints_get (by omega)]
  simp only [Option.getD_some]
  omega
/-- what holds of all that is walked -/
def Fact {α : Type} (L : List α) (P : α → Prop) : Prop := ∀ x ∈ L, P x
theorem Fact.use {α : Type} {L : List α} {P : α → Prop} (h : Fact L P) {x : α} (hx : x ∈ L) : P x := h x hx
theorem i_idxL {f : D → D → Option D} {a b : WE} {e : En} {Q : D → En → Prop} (k : a e fun x e1 => ((∃ xs, x = .list xs) ∨ ∃ xs, x = xtD xs) ∧ b e1 fun y e2 => ∃ z, f x y = some z ∧ Q z e2) : wIdx f a b e Q := k
theorem i_idl {xs : List D} {R : Prop} (k : R) : ((∃ ys, PyData.list xs = .list ys) ∨ ∃ ys, PyData.list xs = xtD ys) ∧ R := ⟨.inl ⟨_, rfl⟩, k⟩
theorem i_idx {xs : List D} {R : Prop} (k : R) : ((∃ ys, xtD xs = .list ys) ∨ ∃ ys, xtD xs = xtD ys) ∧ R := ⟨.inr ⟨_, rfl⟩, k⟩
theorem idxD_li {l : List Int} {k : Int} (h : k ∈ l) : idxD (l.map .int) (.int k) = some (.int (l.idxOf k : Int)) := by
  unfold idxD
  rw [List.findIdx?_map]
  have e : ((fun z => PyData.eqv z (PyData.int k)) ∘ PyData.int) = fun z => z == k := by
    funext z
    simp only [Function.comp, eqv_ii]
    exact Bool.beq_eq_decide_eq z k ▸ rfl
  rw [e, List.findIdx?_eq_some_of_exists ⟨k, h, by simp⟩]
  rfl
theorem indexD_li {l : List Int} {k : Int} (h : k ∈ l) : indexD (LI l) (.int k) = some (.int (l.idxOf k : Int)) := by
  simp only [indexD, lay_ok (lay_lst (lay_ints l (k := 0))), lay_ok (lay_int k (k := 0)), and_self, if_true]
  exact idxD_li h
theorem indexD_xi {l : List Int} {k : Int} (h : k ∈ l) : indexD (xtD (l.map .int)) (.int k) = some (.int (l.idxOf k : Int)) := by
  simp only [indexD, xtD, lay_ok (lay_tup (lay_ints l (k := 0))), lay_ok (lay_int k (k := 0)), and_self, if_true]
  exact idxD_li h
theorem removeF_i {l : List Int} {k : Int} (h : k ∈ l) : removeF (l.map .int) [.int k] = some (.none, (l.erase k).map .int) := by simp [removeF, h]
theorem tupRevD_m {α : Type} {f : α → D} {l : List α} : tupRevD (.list (l.map f)) = some (.tuple (l.reverse.map f)) := by simp [tupRevD, List.map_reverse]
theorem map_eraseI {α β : Type} (f : α → β) : ∀ (l : List α) (k : Nat), (l.map f).eraseIdx k = (l.eraseIdx k).map f
  | [], k => by simp
  | _ :: _, 0 => by simp
  | a :: l, k + 1 => by simp [map_eraseI f l k]
theorem popAtF_m {α : Type} [Inhabited α] {f : α → D} {L : List α} {i : Int} (h0 : 0 ≤ i) (h1 : i < (L.length : Int)) : popAtF (L.map f) [.int i] = some (f L[i.toNat]!, (L.eraseIdx i.toNat).map f) := by
  have h : i.toNat < L.length := by omega
  have := popAtF_ok (xs := L.map f) (y := f L[i.toNat]!) (i := i.toNat) (by rw [List.getElem?_map, List.getElem?_eq_getElem h, getElem!_pos L i.toNat h]; rfl)
  rw [Int.toNat_of_nonneg h0] at this
  rw [this, map_eraseI]
theorem zipD_map {α β : Type} (f : α → D) (g : β → D) : ∀ (L : List α) (M : List β), zipD (L.map f) (M.map g) = (L.zip M).map fun z => .tuple [f z.1, g z.2]
  | [], _ => by simp [zipD]
  | _ :: _, [] => by simp [zipD]
  | x :: L, y :: M => by
    have := zipD_map f g L M
    unfold zipD at this ⊢
    simp [this]
theorem i_zipT {α β : Type} {f : α → D} {g : β → D} {L : List α} {M : List β} {QI : List D → En → Prop} {e : En} (k : QI ((L.zip M).map fun z => .tuple [f z.1, g z.2]) e) : zipK QI (.tuple (L.map f)) (.tuple (M.map g)) e := ⟨_, _, rfl, rfl, rfl, by rw [zipD_map]; exact k⟩
theorem i_lzT {α β : Type} {f : α → D} {g : β → D} {L : List α} {M : List β} {Q : D → En → Prop} {e : En} (k : Q (.list ((L.zip M).map fun z => .tuple [f z.1, g z.2])) e) : lstZK Q (.tuple (L.map f)) (.tuple (M.map g)) e := ⟨_, _, rfl, rfl, by rw [zipD_map]; exact k⟩
theorem i_lzL {α β : Type} {f : α → D} {g : β → D} {L : List α} {M : List β} {Q : D → En → Prop} {e : En} (k : Q (.list ((L.zip M).map fun z => .tuple [f z.1, g z.2])) e) : lstZK Q (.list (L.map f)) (.list (M.map g)) e := ⟨_, _, rfl, rfl, by rw [zipD_map]; exact k⟩
theorem i_zipL {α β : Type} {f : α → D} {g : β → D} {L : List α} {M : List β} {QI : List D → En → Prop} {e : En} (k : QI ((L.zip M).map fun z => .tuple [f z.1, g z.2]) e) : zipK QI (.list (L.map f)) (.list (M.map g)) e := ⟨_, _, rfl, rfl, rfl, by rw [zipD_map]; exact k⟩
abbrev enumL {α : Type} (L : List α) : List (Int × α) := (irng 0 L.length).zip L
theorem enumD_map {α : Type} (f : α → D) (L : List α) : enumD (L.map f) = (enumL L).map fun z => .tuple [.int z.1, f z.2] := by
  unfold enumD enumL
  rw [List.length_map, rangeD_ints, zipD_map]
theorem i_enum {α : Type} {f : α → D} {L : List α} {x : D} {QI : List D → En → Prop} {e : En} (h : seqD x = some (L.map f)) (k : QI ((enumL L).map fun z => .tuple [.int z.1, f z.2]) e) : enumK QI x e := ⟨_, h, by rw [enumD_map]; exact k⟩
theorem mem_enumL {α : Type} [Inhabited α] {L : List α} {z : Int × α} (h : z ∈ enumL L) : 0 ≤ z.1 ∧ z.1 < (L.length : Int) ∧ z.2 = L[z.1.toNat]! ∧ z.2 ∈ L := by
  unfold enumL at h
  obtain ⟨i, hi, e⟩ := List.mem_iff_getElem.mp h
  rw [List.getElem_zip] at e
  rw [List.length_zip, ints_len] at hi
  subst e
  have e1 : (irng 0 (L.length : Int))[i]'(by rw [ints_len]; omega) = (i : Int) := by simp [irng]
  simp only [e1, Int.toNat_natCast]
  exact ⟨by omega, by omega, by rw [getElem!_pos L i (by omega)], List.getElem_mem _⟩
def upd : En → List Nat → List (Option D) → En
  | e, i :: is, v :: vs => upd (e.set i v) is vs
  | e, _, _ => e
abbrev J1 (vs : List (Option D)) : Prop := ∃ a0, vs = [a0]
abbrev J2 (vs : List (Option D)) : Prop := ∃ a0 a1, vs = [a0, a1]
abbrev J8 (vs : List (Option D)) : Prop := ∃ a0 a1 a2 a3 a4 a5 a6 a7, vs = [a0, a1, a2, a3, a4, a5, a6, a7]
section
variable {α : Type} {enc : α → D} {L : List α} {g : WG} {b p q : WS} {t : WT} {nx bk ct : En → Prop} {rt : D → En → Prop} {e : En}
theorem for_st (sl : List Nat) (Inv : List α → List (Option D) → Prop) (vs0 : List (Option D)) (he : upd e sl vs0 = e) (h0 : Inv [] vs0)
    (hs : ∀ pre x post vs, L = pre ++ x :: post → Inv pre vs → ∀ R : En → Prop, (∀ vs', Inv (pre ++ [x]) vs' → R (upd e sl vs')) → ∃ e1, g (enc x) (upd e sl vs) = some e1 ∧ b ⟨R, rt, nx, R⟩ e1)
    (hend : ∀ vs, Inv L vs → nx (upd e sl vs)) : forL g b ⟨nx, rt, bk, ct⟩ (L.map enc) e := by
  have key : ∀ (post pre : List α) (vs : List (Option D)), L = pre ++ post → Inv pre vs → forL g b ⟨nx, rt, bk, ct⟩ (post.map enc) (upd e sl vs) := by
    intro post
    induction post with
    | nil =>
      intro pre vs hL hI
      rw [List.append_nil] at hL
      subst hL
      exact hend vs hI
    | cons x post ih =>
      intro pre vs hL hI
      exact hs pre x post vs hL hI _ fun vs' hI' => ih (pre ++ [x]) vs' (by rw [hL]; simp) hI'
  have := key L [] vs0 rfl h0
  rwa [he] at this
/-- with a way out ahead of the end -/
theorem while_st (sl : List Nat) (Inv : List (Option D) → Prop) (μ : List (Option D) → Nat) (vs0 : List (Option D)) (he : upd e sl vs0 = e) (h0 : Inv vs0)
    (hs : ∀ vs, Inv vs → ∀ R : En → Prop, (∀ vs', Inv vs' → μ vs' < μ vs → R (upd e sl vs')) → t (upd e sl vs) fun c e1 => if c = true then b ⟨R, rt, nx, R⟩ e1 else nx e1) : wWhile t b ⟨nx, rt, bk, ct⟩ e := by
  have key : ∀ n vs, Inv vs → μ vs < n → whileN t b ⟨nx, rt, bk, ct⟩ n (upd e sl vs) := by
    intro n
    induction n with
    | zero => intro vs _ h; exact absurd h (Nat.not_lt_zero _)
    | succ n ih => intro vs hI hm; exact hs vs hI _ fun vs' hI' hm' => ih vs' hI' (by omega)
  have := key (μ vs0 + 1) vs0 h0 (Nat.lt_succ_self _)
  rw [he] at this
  exact ⟨_, this⟩
theorem cut_st (sl : List Nat) (P : List (Option D) → Prop) (h : ∀ R : En → Prop, (∀ vs, P vs → R (upd e sl vs)) → p ⟨R, rt, bk, ct⟩ e) (k : ∀ vs, P vs → q ⟨nx, rt, bk, ct⟩ (upd e sl vs)) : wSeq p q ⟨nx, rt, bk, ct⟩ e :=
  h _ k
end
section
variable {α β : Type} {enc : α → D} {en2 : β → D} {L : List α} {g : WG} {vs : List Nat} {t : WT} {b : WE} {Q : List D → En → Prop} {e : En}
theorem comp_el {α : Type} {h : α → D} {xs : List α} (p : α → Bool) (f : α → β)
    (hs : ∀ x ∈ xs, ∃ e1, g (h x) e = some e1 ∧ (∀ R : Bool → En → Prop, R (p x) e1 → t e1 R) ∧ (p x = true → ∀ R : D → En → Prop, R (en2 (f x)) e1 → b e1 R) ∧ wp e1 vs = e) (hq : Q (((xs.filter p).map f).map en2) e) : compL g vs t b Q (xs.map h) [] e :=
  compL_map (h := h) (xs := xs) (acc := []) p (fun x => en2 (f x)) hs (by rw [List.nil_append]; rw [List.map_map] at hq; exact hq)
theorem comp_fil {α : Type} {h : α → D} {xs : List α} (p : α → Bool)
    (hs : ∀ x ∈ xs, ∃ e1, g (h x) e = some e1 ∧ (∀ R : Bool → En → Prop, R (p x) e1 → t e1 R) ∧ (p x = true → ∀ R : D → En → Prop, R (h x) e1 → b e1 R) ∧ wp e1 vs = e) (hq : Q ((xs.filter p).map h) e) : compL g vs t b Q (xs.map h) [] e :=
  compL_map (h := h) (xs := xs) (acc := []) p h hs (by rw [List.nil_append]; exact hq)
theorem comp_all {α : Type} {h : α → D} {xs : List α} (f : α → β)
    (hs : ∀ x ∈ xs, ∃ e1, g (h x) e = some e1 ∧ (∀ R : D → En → Prop, R (en2 (f x)) e1 → b e1 R) ∧ wp e1 vs = e) (hq : Q ((xs.map f).map en2) e) : compL g vs G7.tYes b Q (xs.map h) [] e := by
  refine comp_el (en2 := en2) (fun _ => true) f (fun x hx => ?_) (by rw [show xs.filter (fun _ => true) = xs from List.filter_eq_self.mpr fun _ _ => rfl]; exact hq)
  obtain ⟨e1, h1, h2, h3⟩ := hs x hx
  exact ⟨e1, h1, fun R h => h, fun _ => h2, h3⟩
theorem comp_allD {xs : List D} (f : D → β)
    (hs : ∀ x ∈ xs, ∃ e1, g x e = some e1 ∧ (∀ R : D → En → Prop, R (en2 (f x)) e1 → b e1 R) ∧ wp e1 vs = e) (hq : Q ((xs.map f).map en2) e) : compL g vs G7.tYes b Q xs [] e := by
  have := comp_all (h := id) (xs := xs) f hs hq
  rwa [List.map_id] at this
end
end G7

namespace G7
namespace Lib
open PySem
/-- _law_next(pool, base): slots 0 pool:p, 1 base:r, 2 digit:v, 3 mixed:v, 4 stir:v; modes ['pl', 'rd']; answer fz -/
def wb_l_next : WS :=
  (wSeq (wIf (tVal (wOp2 gtD (wPlIx 0) (wC (.int 0)))) (wSeq (wAsg 2 (wOp2 modD (wPlIx 0) (wVar 1)))
    (wSeq (wPlSet 0 (wOp2 fdivD (wPlIx 0) (wVar 1)))
    (wRet (wVar 2)))) wNil)
    (wSeq (wPlSet 0 (wOp2 addD (wPlIx 0) (wC (.int 1))))
    (wSeq (wAsg 3 (wOp2 modD (wOp2 addD (wPlIx 0) (wOp2 mulID (wC (.int 7919)) (wPlIx 0))) (wC (.int 1000000007))))
    (wSeq (wAsg 4 (wOp2 modD (wOp2 mulID (wOp2 addD (wVar 3) (wC (.int 11))) (wOp2 addD (wVar 3) (wC (.int 48271)))) (wC (.int 998244353))))
    (wRet (wOp2 modD (wOp2 fdivD (wOp2 modD (wOp2 mulID (wVar 4) (wVar 4)) (wC (.int 2147483647))) (wC (.int 8))) (wVar 1)))))))
/-- _law_web(pool, most): slots 0 pool:p, 1 most:r, 2 many:v, 3 way:v, 4 lack:v, 5 cut:v, 6 roots:v, 7 some:o, 8 a:v, 9 b:v, 10 chance:v, 11 lucky:v, 12 place:v; modes ['pl', 'rd']; answer fz -/
def wb_l_web (S_l_next : FS) : WS :=
  (wSeq (wAsg 2 (wOp2 addD (wC (.int 1)) (wCall S_l_next (waCons (wVar 0) (waCons (wVar 1) waNil)))))
    (wSeq (wAsg 3 (wCall S_l_next (waCons (wVar 0) (waCons (wC (.int 7)) waNil))))
    (wSeq (wAsg 4 (wOp2 addD (wC (.int 2)) (wCall S_l_next (waCons (wVar 0) (waCons (wC (.int 4)) waNil)))))
    (wSeq (wAsg 5 (wCall S_l_next (waCons (wVar 0) (waCons (wVar 2) waNil))))
    (wSeq (wAsg 6 (wComp (wiRg1 (wVar 2)) (gN 12) [12] G7.tYes (wCall S_l_next (waCons (wVar 0) (waCons (wBlt max2D (waCons (wC (.int 1)) (waCons (wVar 12) waNil))) waNil)))))
    (wSeq (wAsg 7 (wList waNil))
    (wSeq (wFor (wiRg1 (wVar 2)) (gN 8) (wFor (wiRg2 (wOp2 addD (wVar 8) (wC (.int 1))) (wVar 2)) (gN 9) (wSeq (wAsg 10 (wCall S_l_next (waCons (wVar 0) (waCons (wC (.int 6)) waNil))))
    (wSeq (wAsg 11 (wList (waCons (wOr (wOp2 eqD (wOp2 addD (wVar 8) (wC (.int 1))) (wVar 9)) (wAnd (wOp2 eqD (wVar 8) (wC (.int 0))) (wOp2 eqD (wOp2 addD (wVar 9) (wC (.int 1))) (wVar 2)))) (waCons (wOp2 ltD (wVar 10) (wOp2 addD (wVar 4) (wC (.int 3)))) (waCons (wOp2 eqD (wVar 10) (wC (.int 0))) (waCons (wOp2 eqD (wOp2 ixD (wVar 6) (wVar 9)) (wVar 8)) waNil))))))
    (wSeq (wAsg 11 (wOp2 addD (wVar 11) (wList (waCons (wAnd (wOp2 eqD (wOp2 ltD (wVar 8) (wVar 5)) (wOp2 ltD (wVar 9) (wVar 5))) (wOp2 ltD (wVar 10) (wC (.int 4)))) (waCons (wOp2 ltD (wVar 10) (wVar 4)) (waCons (wOr (wOp2 ltD (wVar 10) (wC (.int 3))) (wOp2 eqD (wOp2 ixD (wVar 6) (wVar 9)) (wVar 8))) waNil))))))
    (wIf (tAnd (tVal (wOp2 ixD (wVar 11) (wVar 3))) (tVal (wOp2 ltD (wBlt lenD (waCons (wVar 7) waNil)) (wC (.int 20))))) (wExpr (wMut 7 appendF (waCons (wTup (waCons (wVar 8) (waCons (wVar 9) waNil))) waNil))) wNil))))))
    (wRet (wTup (waCons (wVar 2) (waCons (wBlt tupD (waCons (wVar 7) waNil)) waNil)))))))))))
/-- _law_pool(cell): slots 0 cell:r; modes ['rd']; answer nw -/
def wb_l_pool : WS :=
  (wRet (wList (waCons (wBlt max2D (waCons (wC (.int 0)) (waCons (wOp2 subD (wVar 0) (wOp2 powD (wC (.int 10)) (wC (.int 18)))) waNil))) (waCons (wOp2 modD (wVar 0) (wOp2 powD (wC (.int 10)) (wC (.int 18)))) (waCons (wC (.int 0)) waNil)))))
structure Web where
  n : Int
  ts : List (Int × Int)
def dW (w : Web) : D := .tuple [.int w.n, .tuple (w.ts.map dP)]
def lexP (s t : Int × Int) : Prop := s.1 < t.1 ∨ (s.1 = t.1 ∧ s.2 < t.2)
structure Web.ok (w : Web) : Prop where
  n1 : 1 ≤ w.n
  n9 : w.n ≤ 9
  len : w.ts.length ≤ 20
  rg : ∀ t ∈ w.ts, 0 ≤ t.1 ∧ t.1 < t.2 ∧ t.2 < w.n
  srt : w.ts.Pairwise lexP
def nearF (w : Web) (p : Int) : List Int := isort ((w.ts.filter fun t => decide (p = t.1) || decide (p = t.2)).map fun t => t.1 + t.2 - p)
def S_l_next : FS := fun ds Post => ∃ b : Int, ds = [.none, .int b] ∧ 0 < b ∧ b < 1073741824 ∧ ∀ r, 0 ≤ r → r < b → Post (.int r)
theorem m_l_next {rk : RK} : ∀ ds Post, S_l_next ds Post → wb_l_next { nx := fun _ => Post .none ∧ rk = .fz, rt := fun d _ => Post d } (startE 5 ds) := by
  rintro ds Post ⟨b, rfl, h0, h1, h⟩
  unfold wb_l_next startE
  have m1 : ∀ x : Int, mulID (.int 7919) (.int x) = some (.int (7919 * x)) := fun x => mulID_i (okMul_l (by omega) (by omega))
  have m2 : ∀ x : Int, mulID (.int (x % 1000000007 + 11)) (.int (x % 1000000007 + 48271)) = some (.int ((x % 1000000007 + 11) * (x % 1000000007 + 48271))) := fun x => mulID_i (okMul_l (by omega) (by omega))
  have m3 : ∀ x : Int, mulID (.int (x % 998244353)) (.int (x % 998244353)) = some (.int ((x % 998244353) * (x % 998244353))) := fun x => mulID_i (okMul_l (by omega) (by omega))
  simp [-Bool.exists_bool, -List.map_map, h0, h1, m1, m2, m3]
  intro x
  split
  · exact fun y => h _ (Int.emod_nonneg _ (by omega)) (Int.emod_lt_of_pos _ h0)
  · exact fun y z => h _ (Int.emod_nonneg _ (by omega)) (Int.emod_lt_of_pos _ h0)
/-- a draw -/
theorem next_i {b : Int} {Post : D → Prop} (h0 : 0 < b) (h1 : b < 1073741824) (h : ∀ r, 0 ≤ r → r < b → Post (.int r)) : S_l_next [.none, .int b] Post := ⟨b, rfl, h0, h1, h⟩
def S_l_pool : FS := fun ds Post => ∃ c : Int, ds = [.int c] ∧ ∀ x y z : Int, Post (.list [.int x, .int y, .int z])
theorem m_l_pool {rk : RK} : ∀ ds Post, S_l_pool ds Post → wb_l_pool { nx := fun _ => Post .none ∧ rk = .fz, rt := fun d _ => Post d } (startE 1 ds) := by
  rintro ds Post ⟨c, rfl, h⟩
  unfold wb_l_pool startE
  simp [-Bool.exists_bool, -List.map_map, powD, h]
def S_l_web : FS := fun ds Post => ∃ m : Int, ds = [.none, .int m] ∧ 1 ≤ m ∧ m ≤ 9 ∧ ∀ w : Web, w.ok → w.n ≤ m → Post (dW w)
theorem m_l_web {rk : RK} : ∀ ds Post, S_l_web ds Post → wb_l_web S_l_next { nx := fun _ => Post .none ∧ rk = .fz, rt := fun d _ => Post d } (startE 13 ds) := by
  rintro ds Post ⟨m, rfl, hm1, hm9, h⟩
  unfold wb_l_web startE
  simp [-Bool.exists_bool, -List.map_map, r_comp]
  refine next_i (by omega) (by omega) fun r0 a0 b0 => ?_
  simp [-Bool.exists_bool, -List.map_map]
  refine next_i (by omega) (by omega) fun way wa0 wa7 => next_i (by omega) (by omega) fun la la0 la4 => ?_
  simp [-Bool.exists_bool, -List.map_map]
  refine next_i (by omega) (by omega) fun cu cu0 cu1 => ⟨by omega, by omega, ?_⟩
  have hn : ∃ n : Int, n = 1 + r0 := ⟨_, rfl⟩
  obtain ⟨n, en⟩ := hn
  rw [← en]
  have n1 : 1 ≤ n := by omega
  have n9 : n ≤ 9 := by omega
  -- the roots
  refine compL_inv (fun i acc e => e = [some .none, some (.int m), some (.int n), some (.int way), some (.int (2 + la)), some (.int cu), none, none, none, none, none, none, none] ∧ ∃ rs : List Int, acc = rs.map .int ∧ rs.length = i) ⟨rfl, [], rfl, rfl⟩ ?_ ?_
  · rintro i x acc e hx ⟨rfl, rs, rfl, hl⟩
    rw [rangeD_ints] at hx
    obtain ⟨p, hp, rfl⟩ : ∃ p, p ∈ irng 0 n ∧ PyData.int p = x := by
      have := List.mem_of_getElem? hx
      simpa using this
    have hp' := mem_ints.mp hp
    refine ⟨_, rfl, fun R hR => ?_⟩
    simp [-Bool.exists_bool, -List.map_map]
    refine next_i (by split <;> omega) (by split <;> omega) fun r r0 r1 => ?_
    have := hR ((rs.map .int) ++ [.int r]) _ ⟨rfl, rs ++ [r], by simp, by simp [hl]⟩
    simpa using this
  · rintro acc e ⟨rfl, rs, rfl, hl⟩
    rw [rangeD_ints, List.length_map, ints_len] at hl
    simp [-Bool.exists_bool, -List.map_map]
    refine ⟨by omega, by omega, ?_⟩
    refine forL_inv (fun i e => ∃ (ps : List (Int × Int)) (A B C L : Option D), e = [some .none, some (.int m), some (.int n), some (.int way), some (.int (2 + la)), some (.int cu), some (.list (rs.map .int)), some (.list (ps.map dP)), A, B, C, L, none] ∧
      ps.length ≤ 20 ∧ ps.Pairwise lexP ∧ ∀ t ∈ ps, 0 ≤ t.1 ∧ t.1 < t.2 ∧ t.2 < n ∧ t.1 < (i : Int)) ⟨[], none, none, none, none, rfl, by simp, .nil, by simp⟩ ?_ ?_
    · rintro i e x R hx ⟨ps, A, B, C, L, rfl, hl20, hsr, hrg⟩ hR
      rw [rangeD_ints] at hx
      have hi : i < (n - 0).toNat := by
        have := (List.getElem?_eq_some_iff.mp hx).1
        simpa [ints_len] using this
      rw [List.getElem?_map, ints_get hi] at hx
      simp at hx
      subst hx
      simp [-Bool.exists_bool, -List.map_map]
      refine ⟨by omega, by omega, by omega, by omega, ?_⟩
      refine forL_inv (fun j e => ∃ (ps : List (Int × Int)) (B C L : Option D), e = [some .none, some (.int m), some (.int n), some (.int way), some (.int (2 + la)), some (.int cu), some (.list (rs.map .int)), some (.list (ps.map dP)), some (.int (i : Int)), B, C, L, none] ∧
        ps.length ≤ 20 ∧ ps.Pairwise lexP ∧ ∀ t ∈ ps, 0 ≤ t.1 ∧ t.1 < t.2 ∧ t.2 < n ∧ (t.1 < (i : Int) ∨ (t.1 = (i : Int) ∧ t.2 < (i : Int) + 1 + (j : Int)))) ⟨ps, B, C, L, rfl, hl20, hsr, fun t ht => ⟨(hrg t ht).1, (hrg t ht).2.1, (hrg t ht).2.2.1, .inl (hrg t ht).2.2.2⟩⟩ ?_ ?_
      · rintro j e x R' hx ⟨ps, B, C, L, rfl, hl20, hsr, hrg⟩ hR'
        rw [rangeD_ints] at hx
        have hj : j < (n - ((i : Int) + 1)).toNat := by
          have := (List.getElem?_eq_some_iff.mp hx).1
          simpa [ints_len] using this
        rw [List.getElem?_map, ints_get hj] at hx
        simp at hx
        subst hx
        have hroot : ∃ r : Int, ixD (.list (rs.map .int)) (.int ((i : Int) + 1 + (j : Int))) = some (.int r) := by
          have hk : i + 1 + j < rs.length := by omega
          refine ⟨rs[i + 1 + j], ?_⟩
          have := ixD_l (xs := rs.map .int) (i := i + 1 + j) (x := .int rs[i + 1 + j]) (by rw [List.getElem?_map, List.getElem?_eq_getElem hk]; rfl)
          rwa [show (((i + 1 + j : Nat)) : Int) = (i : Int) + 1 + (j : Int) by omega] at this
        obtain ⟨r, hroot⟩ := hroot
        refine ⟨_, rfl, ?_⟩
        refine seq_cut (fun e => ∃ ch : Int, e = [some .none, some (.int m), some (.int n), some (.int way), some (.int (2 + la)), some (.int cu), some (.list (rs.map .int)), some (.list (ps.map dP)), some (.int (i : Int)), some (.int ((i : Int) + 1 + (j : Int))), some (.int ch), L, none]) (fun R hR => ?_) ?_
        · simp [-Bool.exists_bool, -List.map_map]
          exact next_i (by omega) (by omega) fun ch ch0 ch6 => hR _ ⟨ch, rfl⟩
        rintro _ ⟨ch, rfl⟩
        refine seq_cut (fun e => ∃ l0 l1 l2 l3 : Bool, e = [some .none, some (.int m), some (.int n), some (.int way), some (.int (2 + la)), some (.int cu), some (.list (rs.map .int)), some (.list (ps.map dP)), some (.int (i : Int)), some (.int ((i : Int) + 1 + (j : Int))), some (.int ch), some (.list [.bool l0, .bool l1, .bool l2, .bool l3]), none]) (fun R hR => ?_) ?_
        · simp [-Bool.exists_bool, -List.map_map, hroot]
          repeat' (first | exact hR _ ⟨_, _, _, _, rfl⟩ | split)
        rintro _ ⟨l0, l1, l2, l3, rfl⟩
        refine seq_cut (fun e => ∃ l4 l5 l6 : Bool, e = [some .none, some (.int m), some (.int n), some (.int way), some (.int (2 + la)), some (.int cu), some (.list (rs.map .int)), some (.list (ps.map dP)), some (.int (i : Int)), some (.int ((i : Int) + 1 + (j : Int))), some (.int ch), some (.list ([l0, l1, l2, l3, l4, l5, l6].map .bool)), none]) (fun R hR => ?_) ?_
        · simp [-Bool.exists_bool, -List.map_map, hroot, addD]
          repeat' (first | exact hR _ ⟨_, _, _, rfl⟩ | split)
        rintro _ ⟨l4, l5, l6, rfl⟩
        have hluck : ∃ b : Bool, ixD (.list ([l0, l1, l2, l3, l4, l5, l6].map .bool)) (.int way) = some (.bool b) := by
          obtain ⟨k, rfl⟩ : ∃ k : Nat, way = (k : Int) := ⟨way.toNat, by omega⟩
          have hk : k < 7 := by omega
          refine ⟨[l0, l1, l2, l3, l4, l5, l6].getD k false, ixD_l ?_⟩
          match k, hk with
          | 0, _ => rfl
          | 1, _ => rfl
          | 2, _ => rfl
          | 3, _ => rfl
          | 4, _ => rfl
          | 5, _ => rfl
          | 6, _ => rfl
        obtain ⟨lk, hluck⟩ := hluck
        have same : R' _ := hR' _ ⟨ps, some (.int ((i : Int) + 1 + (j : Int))), some (.int ch), some (.list ([l0, l1, l2, l3, l4, l5, l6].map .bool)), rfl, hl20, hsr, fun t ht => ⟨(hrg t ht).1, (hrg t ht).2.1, (hrg t ht).2.2.1, (hrg t ht).2.2.2.imp id fun q => ⟨q.1, by omega⟩⟩⟩
        simp [-Bool.exists_bool, -List.map_map, -List.map_cons, hluck, appendF]
        cases lk with
        | false => simpa using same
        | true =>
          simp [-List.map_map, -List.map_cons]
          split
          · rename_i h20
            refine ⟨_, _, ⟨by omega, rfl, rfl⟩, ?_⟩
            have := hR' [some .none, some (.int m), some (.int n), some (.int way), some (.int (2 + la)), some (.int cu), some (.list (rs.map .int)), some (.list ((ps ++ [((i : Int), (i : Int) + 1 + (j : Int))]).map dP)), some (.int (i : Int)), some (.int ((i : Int) + 1 + (j : Int))), some (.int ch), some (.list ([l0, l1, l2, l3, l4, l5, l6].map .bool)), none]
              ⟨_, _, _, _, rfl, by simp; omega, ?_, ?_⟩
            · simpa [dP] using this
            · rw [List.pairwise_append]
              refine ⟨hsr, by simp, fun s hs t ht => ?_⟩
              simp at ht; subst ht
              rcases (hrg s hs).2.2.2 with q | q
              · exact .inl q
              · exact .inr ⟨q.1, by simp; omega⟩
            · intro t ht
              rcases List.mem_append.mp ht with ht | ht
              · exact ⟨(hrg t ht).1, (hrg t ht).2.1, (hrg t ht).2.2.1, (hrg t ht).2.2.2.imp id fun q => ⟨q.1, by omega⟩⟩
              · simp at ht; subst ht
                exact ⟨by show (0 : Int) ≤ i; omega, by show (i : Int) < i + 1 + j; omega, by show (i : Int) + 1 + j < n; omega, .inr ⟨rfl, by show (i : Int) + 1 + j < i + 1 + ((j + 1 : Nat) : Int); omega⟩⟩
          · exact same
      · rintro e ⟨ps, B, C, L, rfl, hl20, hsr, hrg⟩
        refine hR _ ⟨ps, some (.int (i : Int)), B, C, L, rfl, hl20, hsr, fun t ht => ⟨(hrg t ht).1, (hrg t ht).2.1, (hrg t ht).2.2.1, ?_⟩⟩
        rcases (hrg t ht).2.2.2 with q | q <;> omega
    · rintro e ⟨ps, A, B, C, L, rfl, hl20, hsr, hrg⟩
      simp [-Bool.exists_bool, -List.map_map]
      exact h ⟨n, ps⟩ ⟨n1, n9, hl20, fun t ht => ⟨(hrg t ht).1, (hrg t ht).2.1, (hrg t ht).2.2.1⟩, hsr⟩ (by show n ≤ m; omega)
end Lib
end G7

namespace G7
namespace Lib
open PySem
open Classical in
theorem strict_ext : ∀ {l m : List Int}, l.Pairwise (· < ·) → m.Pairwise (· < ·) → (∀ x, x ∈ l ↔ x ∈ m) → l = m
  | [], [], _, _, _ => rfl
  | [], y :: m, _, _, h => by have := (h y).mpr (by simp); simp at this
  | x :: l, [], _, _, h => by have := (h x).mp (by simp); simp at this
  | x :: l, y :: m, hl, hm, h => by
    have hl' := List.pairwise_cons.mp hl
    have hm' := List.pairwise_cons.mp hm
    have e : x = y := by
      rcases List.mem_cons.mp ((h x).mp (by simp)) with e | h1
      · exact e
      · rcases List.mem_cons.mp ((h y).mpr (by simp)) with e | h2
        · exact e.symm
        · have a := hm'.1 x h1
          have b := hl'.1 y h2
          omega
    subst e
    rw [strict_ext hl'.2 hm'.2 fun z => ?_]
    constructor
    · intro hz
      rcases List.mem_cons.mp ((h z).mp (by simp [hz])) with e | q
      · subst e; have := hl'.1 z hz; omega
      · exact q
    · intro hz
      rcases List.mem_cons.mp ((h z).mpr (by simp [hz])) with e | q
      · subst e; have := hm'.1 z hz; omega
      · exact q
theorem isort_strict {l : List Int} (h : l.Nodup) : (isort l).Pairwise (· < ·) := by
  have h1 := isort_sorted l
  have h2 : (isort l).Nodup := (isort_perm l).nodup_iff.mpr h
  have := List.Pairwise.and h1 (List.nodup_iff_pairwise_ne.mp h2)
  exact this.imp fun ⟨a, b⟩ => by omega
/-- tied -/
def T (w : Web) (a b : Int) : Prop := (a, b) ∈ w.ts ∨ (b, a) ∈ w.ts
theorem T.symm {w : Web} {a b : Int} (h : T w a b) : T w b a := h.elim .inr .inl
theorem T.rg {w : Web} (o : w.ok) {a b : Int} (h : T w a b) : 0 ≤ a ∧ a < w.n ∧ 0 ≤ b ∧ b < w.n ∧ a ≠ b := by
  rcases h with h | h <;> have := o.rg _ h <;> simp at this <;> omega
inductive Reach (w : Web) (p : Int) : Int → Prop
  | refl : Reach w p p
  | step {a b : Int} : Reach w p a → T w a b → Reach w p b
theorem Reach.rg {w : Web} (o : w.ok) {p q : Int} (hp : 0 ≤ p ∧ p < w.n) (h : Reach w p q) : 0 ≤ q ∧ q < w.n := by
  induction h with
  | refl => exact hp
  | step _ t _ => have := t.rg o; omega
theorem Reach.trans {w : Web} {p q r : Int} (h : Reach w p q) (h2 : Reach w q r) : Reach w p r := by
  induction h2 with
  | refl => exact h
  | step _ t ih => exact .step ih t
theorem Reach.symm {w : Web} {p q : Int} (h : Reach w p q) : Reach w q p := by
  induction h with
  | refl => exact .refl
  | step _ t ih => exact (Reach.step .refl t.symm).trans ih
theorem nodup_le {l m : List Int} (h : l.Nodup) (s : ∀ x ∈ l, x ∈ m) : l.length ≤ m.length := by
  induction l generalizing m with
  | nil => simp
  | cons x l ih =>
    have h' := List.nodup_cons.mp h
    have hx : x ∈ m := s x (by simp)
    have := ih (m := m.erase x) h'.2 fun y hy => by
      have hne : y ≠ x := fun e => h'.1 (by rw [← e]; exact hy)
      exact (List.mem_erase_of_ne hne).mpr (s y (by simp [hy]))
    rw [List.length_erase_of_mem hx] at this
    have : 0 < m.length := List.length_pos_of_mem hx
    simp; omega
def dT (l : List Int) : D := .tuple (l.map .int)
theorem eqv_dT (a b : List Int) : PyData.eqv (dT a) (dT b) = decide (a = b) := eqv_tup eqv_ii a b
theorem lay_dT (a : List Int) {k : Nat} : lay (k + 1) (dT a) := lay_tup (lay_ints a)
end Lib
end G7

namespace G7
namespace Lib
open PySem
/-- _law_dig(cell): slots 0 cell:r; modes ['rd']; answer nw -/
def wb_l_dig : WS :=
  (wRet (wList (waCons (wBlt max2D (waCons (wC (.int 0)) (waCons (wOp2 subD (wVar 0) (wOp2 powD (wC (.int 10)) (wC (.int 18)))) waNil))) (waCons (wOp2 modD (wVar 0) (wOp2 powD (wC (.int 10)) (wC (.int 18)))) (waCons (wC (.int 0)) waNil)))))
@[simp] theorem tupXD_l (ds : List D) : tupXD [.list ds] = some (xtD ds) := rfl
theorem erase_perm {α : Type} : ∀ {l : List α} {k : Nat} (h : k < l.length), (l[k] :: l.eraseIdx k).Perm l
  | _ :: _, 0, _ => List.Perm.refl _
  | x :: l, k + 1, h => by
    have := erase_perm (l := l) (k := k) (by simpa using h)
    simp only [List.getElem_cons_succ, List.eraseIdx_cons_succ]
    exact (List.Perm.swap _ _ _).trans (this.cons x)
def S_l_dig : FS := fun ds Post => ∃ c : Int, ds = [.int c] ∧ ∀ x y z : Int, Post (.list [.int x, .int y, .int z])
theorem m_l_dig {rk : RK} : ∀ ds Post, S_l_dig ds Post → wb_l_dig { nx := fun _ => Post .none ∧ rk = .fz, rt := fun d _ => Post d } (startE 1 ds) := by
  rintro ds Post ⟨c, rfl, h⟩
  unfold wb_l_dig startE
  simp [-Bool.exists_bool, -List.map_map, powD, h]
def renP (ps : List Int) (t : Int × Int) : Int × Int := let a := ps.getD t.1.toNat 0; let b := ps.getD t.2.toNat 0; (if b < a then b else a, if b > a then b else a)
structure good (n : Int) (ts : List (Int × Int)) : Prop where
  nd : ts.Nodup
  rg : ∀ t ∈ ts, 0 ≤ t.1 ∧ t.1 < t.2 ∧ t.2 < n
theorem perm_get {ps : List Int} {n : Int} (hp : ps.Perm (irng 0 n)) {i : Int} (h0 : 0 ≤ i) (h1 : i < n) : ∃ hk : i.toNat < ps.length, ps.getD i.toNat 0 = ps[i.toNat] ∧ 0 ≤ ps[i.toNat] ∧ ps[i.toNat] < n := by
  have hl := hp.length_eq
  rw [ints_len] at hl
  have hk : i.toNat < ps.length := by omega
  refine ⟨hk, by rw [List.getD_eq_getElem?_getD, List.getElem?_eq_getElem hk]; rfl, ?_⟩
  have : ps[i.toNat] ∈ irng 0 n := hp.mem_iff.mp (List.getElem_mem hk)
  exact mem_ints.mp this
theorem perm_inj {ps : List Int} {n : Int} (hp : ps.Perm (irng 0 n)) {i j : Int} (h0 : 0 ≤ i) (h1 : i < n) (h2 : 0 ≤ j) (h3 : j < n) (e : ps.getD i.toNat 0 = ps.getD j.toNat 0) : i = j := by
  obtain ⟨hi, e1, _⟩ := perm_get hp h0 h1
  obtain ⟨hj, e2, _⟩ := perm_get hp h2 h3
  rw [e1, e2] at e
  have nd : ps.Nodup := hp.nodup_iff.mpr ((ints_sorted 0 n).imp fun h => by omega)
  have := (List.getElem_inj (h₀ := hi) (h₁ := hj) nd).mp e
  omega
theorem ren_ok {ps : List Int} {n : Int} (hp : ps.Perm (irng 0 n)) {t : Int × Int} (h : 0 ≤ t.1 ∧ t.1 < t.2 ∧ t.2 < n) : 0 ≤ (renP ps t).1 ∧ (renP ps t).1 < (renP ps t).2 ∧ (renP ps t).2 < n := by
  obtain ⟨_, e1, a1, a2⟩ := perm_get hp h.1 (by omega)
  obtain ⟨_, e2, b1, b2⟩ := perm_get hp (i := t.2) (by omega) h.2.2
  have ne : ps.getD t.1.toNat 0 ≠ ps.getD t.2.toNat 0 := fun e => by
    have := perm_inj hp h.1 (by omega) (by omega) h.2.2 e
    omega
  unfold renP
  rw [← e1] at a1 a2
  rw [← e2] at b1 b2
  simp only
  split <;> split <;> omega
theorem ren_inj {ps : List Int} {n : Int} (hp : ps.Perm (irng 0 n)) {t u : Int × Int} (h : 0 ≤ t.1 ∧ t.1 < t.2 ∧ t.2 < n) (h' : 0 ≤ u.1 ∧ u.1 < u.2 ∧ u.2 < n) (e : renP ps t = renP ps u) : t = u := by
  have i1 := fun z => perm_inj hp (i := t.1) (j := u.1) h.1 (by omega) h'.1 (by omega) z
  have i2 := fun z => perm_inj hp (i := t.2) (j := u.2) (by omega) h.2.2 (by omega) h'.2.2 z
  have i3 := fun z => perm_inj hp (i := t.1) (j := u.2) h.1 (by omega) (by omega) h'.2.2 z
  have i4 := fun z => perm_inj hp (i := t.2) (j := u.1) (by omega) h.2.2 h'.1 (by omega) z
  unfold renP at e
  simp only [Prod.mk.injEq] at e
  obtain ⟨e1, e2⟩ := e
  have key : (ps.getD t.1.toNat 0 = ps.getD u.1.toNat 0 ∧ ps.getD t.2.toNat 0 = ps.getD u.2.toNat 0) ∨ (ps.getD t.1.toNat 0 = ps.getD u.2.toNat 0 ∧ ps.getD t.2.toNat 0 = ps.getD u.1.toNat 0) := by
    split at e1 <;> split at e1 <;> split at e2 <;> split at e2 <;> omega
  rcases key with ⟨k1, k2⟩ | ⟨k1, k2⟩
  · exact Prod.ext (i1 k1) (i2 k2)
  · have := i3 k1; have := i4 k2; omega
theorem psort_strict {l : List (Int × Int)} (h : l.Nodup) : (psort l).Pairwise lexP := by
  have h1 := psort_sorted l
  have h2 : (psort l).Nodup := (psort_perm l).nodup_iff.mpr h
  have := List.Pairwise.and h1 (List.nodup_iff_pairwise_ne.mp h2)
  refine this.imp fun {a b} ⟨p, q⟩ => ?_
  unfold leP at p
  unfold lexP
  have : ¬ (a.1 = b.1 ∧ a.2 = b.2) := fun z => q (Prod.ext z.1 z.2)
  omega
theorem good.map {ps : List Int} {n : Int} (hp : ps.Perm (irng 0 n)) {ts : List (Int × Int)} (g : good n ts) : good n (ts.map (renP ps)) := by
  refine ⟨?_, fun t ht => ?_⟩
  · rw [List.nodup_iff_pairwise_ne, List.pairwise_map]
    exact (List.nodup_iff_pairwise_ne.mp g.nd).imp_of_mem fun ha hb h e => h (ren_inj hp (g.rg _ ha) (g.rg _ hb) e)
  · obtain ⟨u, hu, rfl⟩ := List.mem_map.mp ht
    exact ren_ok hp (g.rg u hu)
theorem good.web {n : Int} {ts : List (Int × Int)} (g : good n ts) (n1 : 1 ≤ n) (n9 : n ≤ 9) (hl : ts.length ≤ 20) : (Web.mk n (psort ts)).ok :=
  ⟨n1, n9, by rw [(psort_perm ts).length_eq]; exact hl, fun t ht => g.rg t ((psort_perm ts).mem_iff.mp ht), psort_strict g.nd⟩
end Lib
end G7

namespace G7
namespace Lib
open PySem
theorem dW_0 (w : Web) : ixD (dW w) (.int 0) = some (.int w.n) := rfl
theorem dW_1 (w : Web) : ixD (dW w) (.int 1) = some (TP w.ts) := rfl
abbrev Ar := List (Int × Int)
theorem min_by {α : Type} (f : α → Int) : ∀ {l : List α}, l ≠ [] → ∃ x ∈ l, ∀ y ∈ l, f x ≤ f y
  | [], h => absurd rfl h
  | [x], _ => ⟨x, by simp, by simp⟩
  | x :: y :: l, _ => by
    obtain ⟨z, hz, h⟩ := min_by f (l := y :: l) (by simp)
    by_cases c : f x ≤ f z
    · refine ⟨x, by simp, fun u hu => ?_⟩
      rcases List.mem_cons.mp hu with rfl | hu
      · omega
      · have := h u hu; omega
    · refine ⟨z, List.mem_cons_of_mem _ hz, fun u hu => ?_⟩
      rcases List.mem_cons.mp hu with rfl | hu
      · omega
      · exact h u hu
/-- a rank that rises along each arrow -/
def Acyc (ls : Ar) : Prop := ∃ h : Int → Int, ∀ t ∈ ls, h t.1 < h t.2
theorem Acyc.sub {ls ms : Ar} (h : Acyc ls) (s : ∀ t ∈ ms, t ∈ ls) : Acyc ms := by
  obtain ⟨f, h⟩ := h
  exact ⟨f, fun t ht => h t (s t ht)⟩
theorem Acyc.stuck {ls : Ar} (h : Acyc ls) {l : List Int} (ne : l ≠ []) : ∃ p ∈ l, ∀ a ∈ l, (a, p) ∉ ls := by
  obtain ⟨f, h⟩ := h
  obtain ⟨p, hp, hm⟩ := min_by f ne
  refine ⟨p, hp, fun a ha c => ?_⟩
  have := h _ c
  have := hm a ha
  simp only at *
  omega
/-- an order by which all arrows lead on -/
structure Topo (ls : Ar) (o : List Int) : Prop where
  nd : o.Nodup
  pr : ∀ xs p ys, o = xs ++ p :: ys → ∀ a, (a, p) ∈ ls → a ∈ xs
theorem Topo.nil {ls : Ar} : Topo ls [] := ⟨List.nodup_nil, fun xs p ys h => by simp at h⟩
theorem split_last {α : Type} {o xs ys : List α} {p q : α} (h : o ++ [q] = xs ++ p :: ys) : (ys = [] ∧ xs = o ∧ p = q) ∨ ∃ zs, ys = zs ++ [q] ∧ o = xs ++ p :: zs := by
  rcases List.eq_nil_or_concat ys with rfl | ⟨zs, z, rfl⟩
  · left
    have := List.append_inj' h (by simp)
    simp at this
    exact ⟨rfl, this.1.symm, this.2.symm⟩
  · right
    simp only [List.concat_eq_append] at h ⊢
    have h2 : o ++ [q] = (xs ++ p :: zs) ++ [z] := by rw [h]; simp
    have := List.append_inj' h2 (by simp)
    simp at this
    exact ⟨zs, by rw [this.2], this.1⟩
theorem Topo.snoc {ls : Ar} {o : List Int} {q : Int} (h : Topo ls o) (n : q ∉ o) (hp : ∀ a, (a, q) ∈ ls → a ∈ o) : Topo ls (o ++ [q]) := by
  refine ⟨?_, fun xs p ys e a ha => ?_⟩
  · rw [List.nodup_append]
    refine ⟨h.nd, by simp, fun a ha b hb => ?_⟩
    simp at hb; subst hb
    rintro rfl
    exact n ha
  · rcases split_last e with ⟨_, rfl, rfl⟩ | ⟨zs, _, e⟩
    · exact hp a ha
    · exact h.pr xs p zs e a ha
theorem Topo.app {ls : Ar} {o : List Int} (h : Topo ls o) : ∀ {r : List Int}, r.Nodup → (∀ q ∈ r, q ∉ o) → (∀ q ∈ r, ∀ a, (a, q) ∈ ls → a ∈ o) → Topo ls (o ++ r)
  | [], _, _, _ => by simpa using h
  | q :: r, nd, n, hp => by
    rw [show o ++ q :: r = (o ++ [q]) ++ r by simp]
    rw [List.nodup_cons] at nd
    refine Topo.app (h.snoc (n q (by simp)) (hp q (by simp))) nd.2 (fun x hx c => ?_) fun x hx a ha => ?_
    · simp at c
      rcases c with c | rfl
      · exact n x (by simp [hx]) c
      · exact nd.1 hx
    · simp [hp x (by simp [hx]) a ha]
theorem idx_split {xs ys : List Int} {p : Int} (n : p ∉ xs) : (xs ++ p :: ys).idxOf p = xs.length := by
  rw [List.idxOf_append, if_neg n]; simp
theorem Topo.idx {ls : Ar} {o : List Int} (h : Topo ls o) {a p : Int} (hp : p ∈ o) (ha : (a, p) ∈ ls) : o.idxOf a < o.idxOf p := by
  obtain ⟨xs, ys, e⟩ := List.append_of_mem hp
  have hm := h.pr xs p ys e a ha
  have np : p ∉ xs := fun c => by
    have := h.nd
    rw [e, List.nodup_append] at this
    exact this.2.2 _ c _ (by simp) rfl
  rw [e, idx_split np, List.idxOf_append, if_pos hm]
  exact List.idxOf_lt_length_of_mem hm
theorem Topo.acyc {ls : Ar} {o : List Int} (h : Topo ls o) (hm : ∀ t ∈ ls, t.2 ∈ o) : Acyc ls :=
  ⟨fun p => (o.idxOf p : Int), fun t ht => by have := h.idx (hm t ht) ht; simp only; omega⟩
/-- heights: of the places P the most steps of ways to them -/
structure IsH (ls : Ar) (P : Int → Prop) (h : Int → Int) : Prop where
  nn : ∀ p, P p → 0 ≤ h p
  up : ∀ a p, (a, p) ∈ ls → P p → h a < h p
  at' : ∀ p, P p → h p = 0 ∨ ∃ a, (a, p) ∈ ls ∧ h a = h p - 1
theorem IsH.least {ls : Ar} {P : Int → Prop} {h g : Int → Int} (i : IsH ls P h) (hP : ∀ t ∈ ls, P t.1 ∧ P t.2) (g0 : ∀ p, P p → 0 ≤ g p) (gu : ∀ a p, (a, p) ∈ ls → g a < g p) {p : Int} (hp : P p) : h p ≤ g p := by
  have key : ∀ (n : Nat) (p : Int), P p → h p ≤ n → h p ≤ g p := by
    intro n
    induction n with
    | zero => intro p hp hn; have := g0 p hp; omega
    | succ n ih =>
      intro p hp hn
      rcases i.at' p hp with e | ⟨a, ha, e⟩
      · have := g0 p hp; omega
      · have := ih a (hP _ ha).1 (by omega)
        have := gu a p ha
        omega
  exact key (h p).toNat p hp (by omega)
theorem IsH.one {ls : Ar} {P : Int → Prop} {h g : Int → Int} (i : IsH ls P h) (j : IsH ls P g) (hP : ∀ t ∈ ls, P t.1 ∧ P t.2) {p : Int} (hp : P p) : h p = g p :=
  Int.le_antisymm (i.least hP j.nn (fun a p ha => j.up a p ha (hP _ ha).2) hp) (j.least hP i.nn (fun a p ha => i.up a p ha (hP _ ha).2) hp)
theorem IsH.acyc {ls : Ar} {P : Int → Prop} {h : Int → Int} (i : IsH ls P h) (hP : ∀ t ∈ ls, P t.1 ∧ P t.2) : Acyc ls := ⟨h, fun t ht => i.up t.1 t.2 ht (hP t ht).2⟩
/-- the greatest of nought and some -/
def max0 (l : List Int) : Int := l.foldl max 0
theorem maxAD_0 (l : List Int) : maxAD [.list ((0 :: l).map .int)] = some (.int (max0 l)) := by
  simp only [maxAD, intsD_map, Option.bind_some]; rfl
/-- where the ties lead -/
def arw (w : Web) (p : List Int) : Ar := List.zipWith (fun t x => if x = 1 then t else (t.2, t.1)) w.ts p
def isP (w : Web) (p : List Int) : Prop := p.length = w.ts.length ∧ ∀ x ∈ p, x = 0 ∨ x = 1
theorem arw_map (w : Web) (f : Int × Int → Int) : arw w (w.ts.map f) = w.ts.map fun t => if f t = 1 then t else (t.2, t.1) := by
  unfold arw
  induction w.ts with
  | nil => rfl
  | cons t ts ih => simp [ih]
theorem arw_len {w : Web} {p : List Int} (h : isP w p) : (arw w p).length = w.ts.length := by
  unfold arw; rw [List.length_zipWith, h.1, Nat.min_self]
theorem mem_zipWith {α β γ : Type} {f : α → β → γ} {t : γ} : ∀ {xs : List α} {ys : List β}, t ∈ List.zipWith f xs ys → ∃ a b, a ∈ xs ∧ b ∈ ys ∧ t = f a b
  | [], _, h => by simp at h
  | _ :: _, [], h => by simp at h
  | x :: xs, y :: ys, h => by
    rw [List.zipWith_cons_cons, List.mem_cons] at h
    rcases h with rfl | h
    · exact ⟨x, y, by simp, by simp, rfl⟩
    · obtain ⟨a, b, ha, hb, e⟩ := mem_zipWith h
      exact ⟨a, b, by simp [ha], by simp [hb], e⟩
theorem arw_mem {w : Web} {p : List Int} {t : Int × Int} (h : t ∈ arw w p) : t ∈ w.ts ∨ (t.2, t.1) ∈ w.ts := by
  obtain ⟨a, b, ha, _, rfl⟩ := mem_zipWith h
  by_cases e : b = 1
  · left; rw [if_pos e]; exact ha
  · right; rw [if_neg e]; exact ha
theorem arw_rg {w : Web} (o : w.ok) {p : List Int} : ∀ t ∈ arw w p, (0 ≤ t.1 ∧ t.1 < w.n) ∧ 0 ≤ t.2 ∧ t.2 < w.n := by
  intro t ht
  rcases arw_mem ht with h | h
  · have := o.rg _ h; omega
  · have := o.rg _ h; simp only at this; omega
/-- each tie leads one way or the other -/
theorem arw_tie {w : Web} {p : List Int} (h : isP w p) {t : Int × Int} (ht : t ∈ w.ts) : t ∈ arw w p ∨ (t.2, t.1) ∈ arw w p := by
  obtain ⟨i, hi, rfl⟩ := List.mem_iff_getElem.mp ht
  have hp : i < p.length := by rw [h.1]; exact hi
  have hl : i < (arw w p).length := by rw [arw_len h]; exact hi
  have e : (arw w p)[i] = if p[i] = 1 then w.ts[i] else (w.ts[i].2, w.ts[i].1) := by simp [arw]
  by_cases c : p[i] = 1
  · left; rw [if_pos c] at e; rw [← e]; exact List.getElem_mem _
  · right; rw [if_neg c] at e; rw [← e]; exact List.getElem_mem _
end Lib
end G7

namespace G7
namespace Lib
open PySem
def befF (ls : Ar) (q : Int) (l : List Int) : List Int := (ls.filter fun t => decide (t.2 = q) && decide (t.1 ∈ l)).map (·.1)
theorem mem_bef {ls : Ar} {q : Int} {l : List Int} {a : Int} : a ∈ befF ls q l ↔ (a, q) ∈ ls ∧ a ∈ l := by
  unfold befF
  simp only [List.mem_map, List.mem_filter, Bool.and_eq_true, decide_eq_true_eq]
  constructor
  · rintro ⟨⟨x, y⟩, ⟨h1, h2, h3⟩, rfl⟩
    simp only at h2; subst h2
    exact ⟨h1, h3⟩
  · rintro ⟨h1, h2⟩
    exact ⟨(a, q), ⟨h1, rfl, h2⟩, rfl⟩
/-- a round by arrows: each leads to the one behind it, the last one to the first -/
def nexts (r : List Int) : List (Int × Int) := r.zip (r.tail ++ r.take 1)
/-- the first order, place by place: o is what has been laid, l what is left -/
inductive Gr (ls : Ar) (l0 : List Int) : List Int → List Int → Prop
  | nil : Gr ls l0 [] l0
  | snoc {o l r : List Int} {p : Int} : Gr ls l0 o l → (l.filter fun q => decide (befF ls q l = [])) = p :: r → Gr ls l0 (o ++ [p]) (l.erase p)
theorem Gr.perm {ls : Ar} {l0 o l : List Int} (g : Gr ls l0 o l) : (o ++ l).Perm l0 := by
  induction g with
  | nil => exact .refl _
  | @snoc o l r p _ h ih =>
    have hp : p ∈ l := by
      have : p ∈ l.filter fun q => decide (befF ls q l = []) := by rw [h]; simp
      exact (List.mem_filter.mp this).1
    rw [List.append_assoc]
    exact ((List.perm_cons_erase hp).symm.append_left o).trans ih
theorem Gr.topo {ls : Ar} {l0 o l : List Int} (g : Gr ls l0 o l) (nd : l0.Nodup) (hr : ∀ t ∈ ls, t.1 ∈ l0) : Topo ls o := by
  induction g with
  | nil => exact .nil
  | @snoc o l r p g h ih =>
    have hm : p ∈ l.filter fun q => decide (befF ls q l = []) := by rw [h]; simp
    obtain ⟨hp, hb⟩ := List.mem_filter.mp hm
    have hb : befF ls p l = [] := by simpa using hb
    have nd2 : (o ++ l).Nodup := g.perm.nodup_iff.mpr nd
    rw [List.nodup_append] at nd2
    refine ih.snoc (fun c => nd2.2.2 p c p hp rfl) fun a ha => ?_
    have : a ∈ o ++ l := g.perm.mem_iff.mpr (hr _ ha)
    rcases List.mem_append.mp this with c | c
    · exact c
    · have : a ∈ befF ls p l := mem_bef.mpr ⟨ha, c⟩
      rw [hb] at this; simp at this
theorem Gr.one {ls : Ar} {l0 : List Int} : ∀ {o l o' l' : List Int}, Gr ls l0 o l → Gr ls l0 o' l' → o.length = o'.length → o = o' ∧ l = l' := by
  intro o l o' l' g
  induction g generalizing o' l' with
  | nil =>
    intro g' h
    cases g' with
    | nil => exact ⟨rfl, rfl⟩
    | snoc _ _ => simp at h
  | @snoc o l r p g h ih =>
    intro g' hl
    cases g' with
    | nil => simp at hl
    | @snoc o2 l2 r2 p2 g2 h2 =>
      obtain ⟨rfl, rfl⟩ := ih g2 (by simpa using hl)
      rw [h] at h2
      cases h2
      exact ⟨rfl, rfl⟩
open Classical in
noncomputable def acB (ls : Ar) : Bool := decide (Acyc ls)
theorem acB_t {ls : Ar} : acB ls = true ↔ Acyc ls := by simp [acB]
theorem acB_f {ls : Ar} : acB ls = false ↔ ¬ Acyc ls := by simp [acB]
def S_is_fall : FS := fun ds Post => ∃ w p, ds = [dW w, TI p] ∧ w.ok ∧ isP w p ∧ Post (.bool (acB (arw w p)))
theorem Gr.acyc {w : Web} {p o : List Int} (ok : w.ok) (g : Gr (arw w p) (irng 0 w.n) o []) : Acyc (arw w p) := by
  have hrg := arw_rg ok (p := p)
  have nd0 : (irng 0 w.n).Nodup := (ints_sorted _ _).imp fun h => by omega
  have ht := g.topo nd0 fun t ht => mem_ints.mpr (hrg t ht).1
  refine ht.acyc fun t ht => ?_
  have := g.perm.mem_iff.mpr (mem_ints.mpr (hrg t ht).2)
  simpa using this
end Lib
end G7

namespace G7
namespace Lib
open PySem
/-- the least number from 0 on that is not there -/
def leastF (l : List Int) : Int := ((irng 0 ((l.length : Int) + 1)).find? fun x => decide (x ∉ l)).getD 0
/-- what is found along an order -/
def hueM (w : Web) : List Int → List (Int × Int) → List (Int × Int)
  | [], m => m
  | p :: os, m => hueM w os (m ++ [(p, leastF (((nearF w p).filter fun q => (m.lookup q).isSome).map fun q => (m.lookup q).getD 0))])
/-- the final hue -/
def H (w : Web) (os : List Int) (p : Int) : Int := ((hueM w os []).lookup p).getD 0
def dI (m : List (Int × Int)) : D := .dict (m.map fun p => (.int p.1, .int p.2))
theorem look_dI (m : List (Int × Int)) (q : Int) : lookD (m.map fun p => (PyData.int p.1, PyData.int p.2)) (.inl q) = (m.lookup q).map .int := by
  induction m with
  | nil => rfl
  | cons t m ih =>
    obtain ⟨a, b⟩ := t
    unfold lookD at ih ⊢
    by_cases h : a = q
    · subst h; simp [List.lookup, keyB]
    · have h2 : (q == a) = false := by simpa using fun e => h e.symm
      have h3 : keyB (.inl q) (.int a) = false := by simp [keyB, h]
      simp only [List.map_cons, List.find?_cons, h3, List.lookup, h2]
      exact ih
theorem plain_dI (m : List (Int × Int)) : plainM (m.map fun p => (PyData.int p.1, PyData.int p.2)) = true := by cases m <;> rfl
theorem dget_dI {m : List (Int × Int)} {q v : Int} (h : m.lookup q = some v) : dgetD (dI m) (.int q) = some (.int v) := by
  unfold dI
  simp only [dgetD, plain_dI, if_true, keyOf, Option.bind_some, look_dI, h, Option.map_some]
theorem din_dI (m : List (Int × Int)) (q : Int) : dinD (.int q) (dI m) = some (.bool (m.lookup q).isSome) := by
  unfold dI
  simp only [dinD, plain_dI, if_true, keyOf, Option.map_some, look_dI, Option.isSome_map]
theorem dnin_dI (m : List (Int × Int)) (q : Int) : dninD (.int q) (dI m) = some (.bool (!(m.lookup q).isSome)) := by
  unfold dI
  simp only [dninD, plain_dI, if_true, keyOf, Option.map_some, look_dI, Option.isSome_map]
end Lib
end G7

namespace G7
namespace Lib
open PySem
abbrev Mp := List (Int × Int)
def mput (m : Mp) (q v : Int) : Mp := if (m.lookup q).isSome = true then m.map (fun p => if q = p.1 then (p.1, v) else p) else m ++ [(q, v)]
theorem any_dI (m : Mp) (q : Int) : ((m.map fun p => (PyData.int p.1, PyData.int p.2)).any fun p => keyB (.inl q) p.1) = (m.lookup q).isSome := by
  have h := look_dI m q
  unfold lookD at h
  have h2 := congrArg Option.isSome h
  rw [Option.isSome_map, Option.isSome_map] at h2
  rw [← h2, List.isSome_find?]
theorem putDD_dI (m : Mp) (q v : Int) : putDD (m.map fun p => (PyData.int p.1, PyData.int p.2)) (.inl q) (.int v) = (mput m q v).map fun p => (PyData.int p.1, PyData.int p.2) := by
  unfold putDD mput
  rw [any_dI]
  split
  · rw [List.map_map, List.map_map]
    refine List.map_congr_left fun p _ => ?_
    simp only [Function.comp, keyB]
    by_cases c : q = p.1
    · simp [c]
    · have : ¬ p.1 = q := fun z => c z.symm
      simp [c, this]
  · simp [kD]
section
variable {e : En} {i : Nat} {nx bk ct : En → Prop} {rt : D → En → Prop} {m : Mp} {q v : Int}
def dputK (i : Nat) (nx : En → Prop) (y j : D) (e : En) : Prop := ∃ k m, keyOf j = some k ∧ e[i]? = some (some (.dict m)) ∧ plainM m = true ∧ m.length < 1000000 ∧ nx (e.set i (some (.dict (putDD m k y))))
def dputK0 (i : Nat) (b : WE) (nx : En → Prop) (y : D) (e : En) : Prop := (∃ m, e[i]? = some (some (.dict m)) ∧ plainM m = true) ∧ b e fun j e2 => dputK i nx y j e2
theorem i_dput {v ix : WE} (k : v e fun y e1 => dputK0 i ix nx y e1) : wDput i v ix ⟨nx, rt, bk, ct⟩ e := k
theorem i_dput0 {ix : WE} {y : D} (h : e[i]? = some (some (dI m))) (k : ix e fun j e2 => dputK i nx y j e2) : dputK0 i ix nx y e := ⟨⟨_, h, plain_dI m⟩, k⟩
theorem i_dput1 (h : e[i]? = some (some (dI m))) (hl : m.length < 1000000) (k : nx (e.set i (some (dI (mput m q v))))) : dputK i nx (.int v) (.int q) e :=
  ⟨.inl q, _, rfl, h, plain_dI m, by rw [List.length_map]; exact hl, by rw [putDD_dI]; exact k⟩
end
def dTP (ks : List (Int × Int)) : D := dTD (ks.map fun p => (dP p, .bool true))
def sput (ks : List (Int × Int)) (p : Int × Int) : List (Int × Int) := if p ∈ ks then ks else ks ++ [p]
theorem mem_sput {ks : List (Int × Int)} {p q : Int × Int} : q ∈ sput ks p ↔ q = p ∨ q ∈ ks := by
  unfold sput
  split
  · rename_i h
    constructor
    · exact .inr
    · rintro (rfl | h')
      · exact h
      · exact h'
  · simp [or_comm]
theorem nodup_sput {ks : List (Int × Int)} {p : Int × Int} (h : ks.Nodup) : (sput ks p).Nodup := by
  unfold sput
  split
  · exact h
  · rename_i n
    rw [List.nodup_append]
    exact ⟨h, by simp, fun x hx y hy => by simp at hy; subst hy; rintro rfl; exact n hx⟩
theorem len_sput (ks : List (Int × Int)) (p : Int × Int) : (sput ks p).length ≤ ks.length + 1 := by
  unfold sput; split <;> simp
def kP (p : Int × Int) : List L2.Key := [.inl p.1, .inl p.2]
theorem keyT_dP (p : Int × Int) : keyT (dP p) = some (kP p) := rfl
theorem keyTR_dP (p : Int × Int) : keyTR (dP p) = some (kP p) := rfl
theorem tD_kP (p : Int × Int) : tD (kP p) = dP p := rfl
theorem kP_inj {p q : Int × Int} : kP p = kP q ↔ p = q := by
  constructor
  · intro h
    simp only [kP, List.cons.injEq, Sum.inl.injEq, and_true] at h
    exact Prod.ext h.1 h.2
  · rintro rfl; rfl
theorem keyTB_dP (p q : Int × Int) : keyTB (kP p) (dP q) = decide (q = p) := by
  unfold keyTB
  rw [keyT_dP]
  simp only [Option.some.injEq, kP_inj]
theorem any_dTP (ks : List (Int × Int)) (p : Int × Int) : ((ks.map fun p => (dP p, PyData.bool true)).any fun z => keyTB (kP p) z.1) = decide (p ∈ ks) := by
  rw [List.any_map, Bool.eq_iff_iff]
  simp only [List.any_eq_true, Function.comp, keyTB_dP, decide_eq_true_eq]
  constructor
  · rintro ⟨x, h, rfl⟩; exact h
  · exact fun h => ⟨p, h, rfl⟩
theorem putTD_dTP (ks : List (Int × Int)) (p : Int × Int) : putTD (ks.map fun p => (dP p, PyData.bool true)) (kP p) (.bool true) = (sput ks p).map fun p => (dP p, .bool true) := by
  unfold putTD sput
  rw [any_dTP]
  by_cases h : p ∈ ks
  · simp only [h, decide_true, if_true]
    rw [List.map_map]
    refine List.map_congr_left fun q _ => ?_
    simp only [Function.comp]
    split <;> rfl
  · simp [h, tD_kP]
theorem lookTD_dTP (ks : List (Int × Int)) (p : Int × Int) : (lookTD (ks.map fun p => (dP p, PyData.bool true)) (kP p)).isSome = decide (p ∈ ks) := by
  unfold lookTD
  rw [Option.isSome_map, List.isSome_find?, any_dTP]
theorem dinTD_p (ks : List (Int × Int)) (p : Int × Int) : dinTD (dP p) (dTP ks) = some (.bool (decide (p ∈ ks))) := by
  simp only [dinTD, dTP, dTD, keyTR_dP, Option.map_some, lookTD_dTP]
theorem dninTD_p (ks : List (Int × Int)) (p : Int × Int) : dninTD (dP p) (dTP ks) = some (.bool (!decide (p ∈ ks))) := by
  simp only [dninTD, dTP, dTD, keyTR_dP, Option.map_some, lookTD_dTP]
theorem lenTD_p (ks : List (Int × Int)) : lenTD [dTP ks] = some (.int ks.length) := by simp [lenTD, dTP]
theorem sortTD_p (ks : List (Int × Int)) : sortTD (dTP ks) = some (LP (psort ks)) := by
  show (pairsD ((ks.map fun p => (dP p, PyData.bool true)).map (·.1))).map _ = _
  rw [List.map_map, show ((fun x : D × D => x.1) ∘ fun p : Int × Int => (dP p, PyData.bool true)) = dP from rfl, pairsD_dP]
  rfl
theorem sortTLD_p (ks : List (Int × Int)) : sortTLD [dTP ks] = some (LP (psort ks)) := sortTD_p ks
section
variable {e : En} {i : Nat} {nx bk ct : En → Prop} {rt : D → En → Prop} {ks : List (Int × Int)} {p : Int × Int} {Q : D → En → Prop}
theorem i_keysT (h : e[i]? = some (some (dTP ks))) (k : Q (LP (psort ks)) e) : wKeysT i e Q := ⟨_, _, h, sortTD_p ks, k⟩
def dputTK (i : Nat) (nx : En → Prop) (y j : D) (e : En) : Prop := ∃ k m, keyTR j = some k ∧ e[i]? = some (some (dTD m)) ∧ m.length < 1000000 ∧ nx (e.set i (some (dTD (putTD m k y))))
def dputTK0 (i : Nat) (b : WE) (nx : En → Prop) (y : D) (e : En) : Prop := (∃ m, e[i]? = some (some (dTD m))) ∧ b e fun j e2 => dputTK i nx y j e2
theorem i_dputT {v ix : WE} (k : v e fun y e1 => dputTK0 i ix nx y e1) : wDputT i v ix ⟨nx, rt, bk, ct⟩ e := k
theorem i_dputT0 {ix : WE} {y : D} (h : e[i]? = some (some (dTP ks))) (k : ix e fun j e2 => dputTK i nx y j e2) : dputTK0 i ix nx y e := ⟨⟨_, h⟩, k⟩
theorem i_dputT1 (h : e[i]? = some (some (dTP ks))) (hl : ks.length < 1000000) (k : nx (e.set i (some (dTP (sput ks p))))) : dputTK i nx (.bool true) (dP p) e :=
  ⟨kP p, _, keyTR_dP p, h, by rw [List.length_map]; exact hl, by rw [putTD_dTP]; exact k⟩
end
end Lib
end G7

namespace G7
namespace Lib
open PySem
def hok (w : Web) (h : List Int) : Bool := w.ts.all fun t => !decide (gI h t.1 = gI h t.2)
def nearU (w : Web) (p : Int) : List Int := (w.ts.filter fun t => decide (p = t.1) || decide (p = t.2)).map fun t => t.1 + t.2 - p
end Lib
end G7

namespace G7
open PySem

local macro_rules | `(tactic| walk_at "op") => `(tactic| first
  | with_reducible exact addD_i _ _ | with_reducible exact subD_i _ _ | with_reducible exact ltD_i _ _ | with_reducible exact leD_i _ _ | with_reducible exact gtD_i _ _ | with_reducible exact geD_i _ _
  | with_reducible exact eqD_i _ _ | with_reducible exact neD_i _ _ | with_reducible exact lenD_lm | with_reducible exact lenD_tm | with_reducible exact lenD_l _ | with_reducible exact lenD_t _ | with_reducible exact dP_0 _ | with_reducible exact dP_1 _
  | with_reducible exact ixD_t0 _ _ | with_reducible exact ixD_t1 _ _ _ | with_reducible exact ixD_t2 _ _ _ _ | with_reducible exact ixD_l0 _ _ | with_reducible exact ixD_l0m | with_reducible exact ixD_t0m | exact eqD_sT | exact eqD_sF | exact neD_sT | exact neD_sF | with_reducible exact ixD_l1 _ _ _
  | with_reducible exact Lib.dW_0 _ | with_reducible exact Lib.dW_1 _ | with_reducible exact tupD_l _ | with_reducible exact tupD_t _ | with_reducible exact lstD_l _ | with_reducible exact lstD_t _ | with_reducible exact max2D_i _ _ | with_reducible exact min2D_i _ _
  | with_reducible exact isTD_i | with_reducible exact revT_m | with_reducible exact slL_m1 | with_reducible exact tupRevD_m | ((with_reducible refine' indexD_li ?_); with_reducible assumption) | ((with_reducible refine' indexD_xi ?_); with_reducible assumption) | ((with_reducible refine' Lib.indexD_Xi ?_); with_reducible assumption) | with_reducible exact isTD_s _ _ | with_reducible exact powD_6 | with_reducible exact powD_16 | with_reducible exact powD_18 | with_reducible exact isTD_t _ _ | with_reducible exact isTD_l _ _ | with_reducible exact isTD_b _ _ | with_reducible exact isTD_n _ | with_reducible exact isD_bb _ _ | with_reducible exact isNotD_bb _ _ | with_reducible exact isD_n' () | with_reducible exact isD_lN _ | with_reducible exact isD_tN _ | with_reducible exact isNotD_lN _ | with_reducible exact isNotD_tN _ | with_reducible exact intD_b _ | with_reducible exact intD_i _ | with_reducible exact negD_i _ | with_reducible exact eqD_b _ _ | with_reducible exact neD_b _ _
  | with_reducible exact neD_l0 _ | with_reducible exact eqD_l0 _ | with_reducible exact eqD_li _ _ | with_reducible exact neD_li _ _ | with_reducible exact eqD_ti _ _ | with_reducible exact neD_ti _ _
  | with_reducible exact eqD_lp _ _ | with_reducible exact neD_lp _ _ | with_reducible exact eqD_tp _ _ | with_reducible exact neD_tp _ _
  | with_reducible exact inD_li _ _ | with_reducible exact inD_ti _ _ | with_reducible exact notInD_li _ _ | with_reducible exact notInD_ti _ _ | with_reducible exact inD_lp _ _ | with_reducible exact inD_tp _ _
  | with_reducible exact notInD_lp _ _ | with_reducible exact notInD_tp _ _ | with_reducible exact inD_lp' _ _ _ | with_reducible exact inD_tp' _ _ _ | with_reducible exact notInD_lp' _ _ _ | with_reducible exact notInD_tp' _ _ _
  | with_reducible exact inD_pair _ _ _ | with_reducible exact sortedAD_i _ | with_reducible exact sortedAD_p _ | with_reducible exact allD_b _ | with_reducible exact anyD_b _
  | ((with_reducible refine' addD_1m ?_); omega) | with_reducible exact Lib.maxAD_0 _ | with_reducible exact Lib.din_dI _ _ | with_reducible exact Lib.dinTD_p _ _ | with_reducible exact Lib.dninTD_p _ _ | with_reducible exact Lib.lenTD_p _ | with_reducible exact Lib.sortTLD_p _ | with_reducible exact Lib.dnin_dI _ _ | ((with_reducible apply Lib.dget_dI); with_reducible assumption) | ((with_reducible refine' repLD_0 ?_ ?_) <;> omega) | ((with_reducible refine' slT_tom ?_); omega) | ((with_reducible refine' slT_frm ?_); omega) | ((with_reducible refine' slL_tom ?_); omega) | ((with_reducible refine' slL_frm ?_); omega) | ((with_reducible refine' modD_i ?_); omega) | ((with_reducible refine' fdivD_i ?_ ?_) <;> omega) | ((with_reducible refine' mulID_i (okMul_l ?_ ?_)) <;> omega) | ((with_reducible refine' mulID_i (okMul_r ?_ ?_)) <;> omega)
  | ((with_reducible refine' ixD_lm ?_ ?_) <;> omega) | ((with_reducible refine' ixD_tm ?_ ?_) <;> omega) | with_reducible assumption)
local macro_rules | `(tactic| walk_at "env") => `(tactic| simp only [List.set_cons_zero, List.set_cons_succ, upd, wp_cons, wp_nil, back_cons, back_nil, List.getElem?_cons_zero, List.getElem?_cons_succ, Option.getD_some, toF])
local macro_rules | `(tactic| walk_at "cond") => `(tactic| first | assumption | omega | exact rfl | (focus (simp; done)))
local macro_rules | `(tactic| walk_at "mut") => `(tactic| first | ((with_reducible refine' popAtF_m ?_ ?_) <;> omega) | ((with_reducible refine' appendF_m ?_); first | omega | (simp only [List.length_append, List.length_map, List.length_cons, List.length_nil]; omega)) | ((with_reducible refine' removeF_i ?_); (first | assumption | (simp; done))) | ((with_reducible refine' extendF_m ?_); first | omega | (simp only [List.length_append, List.length_map, List.length_cons, List.length_nil]; omega)))
local macro_rules | `(tactic| walk_at "s") => `(tactic| first
  | with_reducible refine' i_seq ?_ | ((with_reducible apply i_frz); (exact rfl); (first | exact nt_l | exact nt_d)) | ((with_reducible apply i_asV); (exact rfl)) | ((with_reducible apply i_asO); (exact rfl); (first | exact nt_l | exact nt_d)) | with_reducible refine' i_op2 ?_ | with_reducible refine' i_acons ?_ | with_reducible refine' i_anil ?_ | ((with_reducible apply i_var); exact rfl) | with_reducible refine' i_c ?_
  | with_reducible refine' i_asg ?_ | with_reducible refine' i_par ?_ | with_reducible refine' i_par2 ?_ | with_reducible refine' i_call ?_ | with_reducible refine' i_blt ?_ | with_reducible refine' i_op1 ?_ | with_reducible refine' i_tup ?_ | with_reducible refine' i_list ?_
  | ((with_reducible apply i_ex); walk_at "op") | ((with_reducible apply i_exk); walk_at "op")
  | with_reducible refine' i_val ?_ | with_reducible refine' i_exb ?_ | with_reducible refine' i_if ?_ | with_reducible refine' i_ret ?_ | with_reducible refine' i_nil ?_
  | with_reducible refine' i_T ?_ | with_reducible refine' i_F ?_ | with_reducible refine' i_tand ?_ | with_reducible refine' i_tor ?_ | with_reducible refine' i_tnot ?_ | with_reducible refine' i_yes ?_
  | with_reducible refine' i_and ?_ | with_reducible refine' i_or ?_ | with_reducible refine' i_not ?_ | with_reducible refine' i_ife ?_ | with_reducible refine' i_chain ?_
  | with_reducible refine' i_comp ?_ | with_reducible refine' i_iseq ?_ | with_reducible refine' i_irg1 ?_ | with_reducible refine' i_irg2 ?_ | with_reducible refine' i_izip ?_ | with_reducible refine' i_lstZ ?_ | with_reducible refine' i_lzT ?_ | with_reducible refine' i_lzL ?_ | with_reducible refine' i_disp1 ?_ | with_reducible refine' i_keyI ?_ | with_reducible refine' i_zipT ?_ | with_reducible refine' i_zipL ?_ | with_reducible refine' i_ienum ?_ | ((with_reducible apply i_enum); exact rfl) | with_reducible refine' i_irev ?_
  | with_reducible refine' i_for ?_ | with_reducible refine' i_lstrg ?_ | with_reducible refine' i_asgG ?_ | with_reducible refine' i_asgP ?_ | with_reducible refine' i_expr ?_ | with_reducible refine' i_retN ?_ | with_reducible refine' i_brk ?_ | with_reducible refine' i_cnt ?_
  | with_reducible refine' i_on ?_ | with_reducible refine' i_os ?_ | with_reducible refine' i_sl ?_ | ((with_reducible apply i_exl); exact rfl)
  | ((with_reducible refine' i_rg1 ?_ ?_); (constructor <;> omega)) | ((with_reducible refine' i_rg2 ?_ ?_); (refine ⟨?_, ?_, ?_, ?_⟩ <;> omega))
  | with_reducible refine' i_exi ?_
  | (with_reducible refine' i_len (Nat.le_of_ble_eq_true rfl) ?_)
  | ((with_reducible apply i_g); exact rfl) | ((with_reducible refine' i_plix ?_ ?_); exact rfl) | with_reducible refine' i_plset ?_ | with_reducible refine' i_np ?_
  | with_reducible refine' Lib.i_xt ?_ | with_reducible refine' Lib.i_idxX ?_ | with_reducible refine' i_idxL ?_ | with_reducible refine' i_idl ?_ | with_reducible refine' i_idx ?_
  | ((with_reducible apply i_mut1); (exact rfl); walk_at "mut")
  | ((with_reducible apply Lib.i_keysT); exact rfl) | (with_reducible refine' Lib.i_dputT ?_) | ((with_reducible apply Lib.i_dputT0); exact rfl) | ((with_reducible apply Lib.i_dputT1); (exact rfl); omega)
  | (with_reducible refine' Lib.i_dput ?_) | ((with_reducible apply Lib.i_dput0); exact rfl) | ((with_reducible apply Lib.i_dput1); (exact rfl); omega)
  | ((with_reducible refine' i_dT ?_ ?_); walk_at "cond") | ((with_reducible refine' i_dF ?_ ?_); walk_at "cond") | ((with_reducible refine' i_ndT ?_ ?_); walk_at "cond") | ((with_reducible refine' i_ndF ?_ ?_); walk_at "cond")
  | ((with_reducible refine' i_bT ?_ ?_); (first | with_reducible assumption | exact rfl)) | ((with_reducible refine' i_bF ?_ ?_); (first | with_reducible assumption | exact rfl))
  | ((with_reducible apply i_setixm); (exact rfl); omega; omega) | (with_reducible refine' i_setix ?_) | ((with_reducible apply i_setix0); exact rfl) | ((with_reducible apply i_mut); exact rfl))
local macro_rules | `(tactic| walk_at "run") => `(tactic| (repeat (walk_at "s")); try walk_at "env")
local macro_rules | `(tactic| walk_at "start") => `(tactic| simp only [startE, List.map_cons, List.map_nil, List.length_cons, List.length_nil, Nat.reduceAdd, Nat.reduceSub, Nat.zero_add, List.replicate_succ, List.replicate_zero, List.cons_append, List.nil_append])
local macro_rules | `(tactic| walk_at "len") => `(tactic| first | omega | (simp only [List.length_map, List.length_append, List.length_cons, List.length_nil]; omega) | (refine Nat.le_trans ?_ (Nat.le_refl _); have := List.length_filter_le; simp_all; done))
local macro_rules | `(tactic| walk_at "opl") => `(tactic| first | ((with_reducible refine' addD_lm ?_); walk_at "len") | ((with_reducible refine' addD_tm ?_); walk_at "len") | ((with_reducible refine' addLD_lm ?_); walk_at "len"))
/-- a comprehension: of what is walked itself, of ints, pairs, truths -/
local macro_rules | `(tactic| walk_at "comp") => `(tactic| first
  | (refine comp_fil ?_ (fun x hx => ?_) ?_; rotate_left 1; focus ((try have hx1 := Fact.use (by assumption) hx); (try have hx2 := mem_ints.mp hx); (try dsimp only at hx1); refine ⟨_, rfl, fun R hR => ?_, fun hp R hR => ?_, rfl⟩ <;> (repeat (walk_at "s")) <;> exact hR))
  | (refine comp_all (en2 := PySem.PyData.int) ?_ (fun x hx => ?_) ?_; rotate_left 1; focus ((try have hx1 := Fact.use (by assumption) hx); (try have hx2 := mem_ints.mp hx); (try dsimp only at hx1); refine ⟨_, rfl, fun R hR => ?_, rfl⟩ <;> (repeat (walk_at "s")) <;> exact hR))
  | (refine comp_all (en2 := PySem.PyData.bool) ?_ (fun x hx => ?_) ?_; rotate_left 1; focus ((try have hx1 := Fact.use (by assumption) hx); (try have hx2 := mem_ints.mp hx); (try dsimp only at hx1); refine ⟨_, rfl, fun R hR => ?_, rfl⟩ <;> (repeat (walk_at "s")) <;> exact hR))
  | (refine comp_all (en2 := dP) ?_ (fun x hx => ?_) ?_; rotate_left 1; focus ((try have hx1 := Fact.use (by assumption) hx); (try have hx2 := mem_ints.mp hx); (try dsimp only at hx1); refine ⟨_, rfl, fun R hR => ?_, rfl⟩ <;> (repeat (walk_at "s")) <;> exact hR))
  | (refine comp_el (en2 := PySem.PyData.int) ?_ ?_ (fun x hx => ?_) ?_; rotate_left 2; focus ((try have hx1 := Fact.use (by assumption) hx); (try have hx2 := mem_ints.mp hx); (try dsimp only at hx1); refine ⟨_, rfl, fun R hR => ?_, fun hp R hR => ?_, rfl⟩ <;> (repeat (walk_at "s")) <;> exact hR))
  | (refine comp_el (en2 := dP) ?_ ?_ (fun x hx => ?_) ?_; rotate_left 2; focus ((try have hx1 := Fact.use (by assumption) hx); (try have hx2 := mem_ints.mp hx); (try dsimp only at hx1); refine ⟨_, rfl, fun R hR => ?_, fun hp R hR => ?_, rfl⟩ <;> (repeat (walk_at "s")) <;> exact hR))
  | (refine comp_el (en2 := PySem.PyData.bool) ?_ ?_ (fun x hx => ?_) ?_; rotate_left 2; focus ((try have hx1 := Fact.use (by assumption) hx); (try have hx2 := mem_ints.mp hx); (try dsimp only at hx1); refine ⟨_, rfl, fun R hR => ?_, fun hp R hR => ?_, rfl⟩ <;> (repeat (walk_at "s")) <;> exact hR))
  | (refine comp_allD (en2 := PySem.PyData.int) ?_ (fun x hx => ?_) ?_; rotate_left 1; focus ((try have hx1 := Fact.use (by assumption) hx); (try dsimp only at hx1); refine ⟨_, rfl, fun R hR => ?_, rfl⟩ <;> (repeat (walk_at "s")) <;> exact hR))
  | (refine comp_allD (en2 := PySem.PyData.bool) ?_ (fun x hx => ?_) ?_; rotate_left 1; focus ((try have hx1 := Fact.use (by assumption) hx); (try dsimp only at hx1); refine ⟨_, rfl, fun R hR => ?_, rfl⟩ <;> (repeat (walk_at "s")) <;> exact hR)))
local macro_rules | `(tactic| walk_at "runc") => `(tactic| (repeat (first | walk_at "s" | walk_at "comp")); try walk_at "env")
/-- as run, but stops ahead of an if -/
local macro_rules | `(tactic| walk_at "runI") => `(tactic| (repeat ((fail_if_success (with_reducible refine' i_if ?_)); walk_at "s")); try walk_at "env")
namespace Lib
open PySem
/-- _law_next: slots 0 pool:p, 1 base:r, 2 digit:v, 3 mixed:v, 4 stir:v; modes ['pl', 'rd']; answer fz -/
def wb_l_nextC : WS :=
  (wSeq (wIf (tVal (wOp2 gtD (wPlIx 0) (wC (.int 0)))) (wSeq (wAsg 2 (wOp2 modD (wPlIx 0) (wVar 1)))
    (wSeq (wPlSet 0 (wOp2 fdivD (wPlIx 0) (wVar 1)))
    (wRet (wVar 2)))) wNil)
    (wSeq (wPlSet 0 (wOp2 addD (wPlIx 0) (wC (.int 1))))
    (wSeq (wAsg 3 (wOp2 modD (wOp2 addD (wPlIx 0) (wOp2 mulID (wC (.int 6053)) (wPlIx 0))) (wC (.int 1000000007))))
    (wSeq (wAsg 4 (wOp2 modD (wOp2 mulID (wOp2 addD (wVar 3) (wC (.int 29))) (wOp2 addD (wVar 3) (wC (.int 91193)))) (wC (.int 998244353))))
    (wRet (wOp2 modD (wOp2 fdivD (wOp2 modD (wOp2 mulID (wVar 4) (wVar 4)) (wC (.int 2147483647))) (wC (.int 16))) (wVar 1)))))))
theorem m_l_nextC {rk : RK} : ∀ ds Post, S_l_next ds Post → wb_l_nextC { nx := fun _ => Post .none ∧ rk = .fz, rt := fun d _ => Post d } (startE 5 ds) := by
  rintro ds Post ⟨b, rfl, h0, h1, h⟩
  unfold wb_l_nextC startE
  have m1 : ∀ x : Int, mulID (.int 6053) (.int x) = some (.int (6053 * x)) := fun x => mulID_i (okMul_l (by omega) (by omega))
  have m2 : ∀ x : Int, mulID (.int (x % 1000000007 + 29)) (.int (x % 1000000007 + 91193)) = some (.int ((x % 1000000007 + 29) * (x % 1000000007 + 91193))) := fun x => mulID_i (okMul_l (by omega) (by omega))
  have m3 : ∀ x : Int, mulID (.int (x % 998244353)) (.int (x % 998244353)) = some (.int ((x % 998244353) * (x % 998244353))) := fun x => mulID_i (okMul_l (by omega) (by omega))
  simp [-Bool.exists_bool, -List.map_map, h0, h1, m1, m2, m3]
  intro x
  split
  · exact fun y => h _ (Int.emod_nonneg _ (by omega)) (Int.emod_lt_of_pos _ h0)
  · exact fun y z => h _ (Int.emod_nonneg _ (by omega)) (Int.emod_lt_of_pos _ h0)
/-- _law_ints: slots 0 some:r, 1 number:v; modes ['rd']; answer fz -/
def wb_l_ints : WS :=
  (wRet (wBlt allD (waCons (wComp (wiSeq (wVar 0)) (gN 1) [1] G7.tYes (wAnd (wOp1 (isTD "int") (wVar 1)) (wNot (wOp1 (isTD "bool") (wVar 1))))) waNil)))
def S_l_ints : FS := fun ds Post => ∃ (x : D) (l : List Int), ds = [x] ∧ seqD x = some (l.map .int) ∧ Post (.bool true)
theorem all_true {α : Type} (l : List α) : (l.map fun _ => true).all id = true := by simp
theorem m_l_ints {rk : RK} : ∀ ds Post, S_l_ints ds Post → wb_l_ints { nx := fun _ => Post .none ∧ rk = .fz, rt := fun d _ => Post d } (startE 2 ds) := by
  rintro ds Post ⟨x, l, rfl, hx, h⟩
  unfold wb_l_ints
  walk_at "start"
  walk_at "run"
  refine i_exl hx ?_
  refine comp_all (en2 := .bool) (fun _ => true) (fun x hx => ⟨_, rfl, fun R hR => ?_, rfl⟩) ?_
  · walk_at "run"; exact hR
  walk_at "run"
  rw [all_true]
  exact h
/-- _law_shuffled: slots 0 pool:p, 1 many:r, 2 left:o, 3 found:o; modes ['pl', 'rd']; answer fz -/
def wb_l_shuffled (S_l_next : FS) : WS :=
  (wSeq (wAsg 2 (wLstRg (wiRg1 (wVar 1))))
    (wSeq (wAsg 3 (wList waNil))
    (wSeq (wWhile (tVal (wOp2 neD (wVar 2) (wList waNil))) (wExpr (wMut 3 appendF (waCons (wMut 2 popAtF (waCons (wCall S_l_next (waCons (wVar 0) (waCons (wBlt lenD (waCons (wVar 2) waNil)) waNil))) waNil)) waNil))))
    (wRet (wVar 3)))))
def S_l_shuffled : FS := fun ds Post => ∃ n : Int, ds = [.none, .int n] ∧ 0 ≤ n ∧ n ≤ 1000 ∧ ∀ ps : List Int, ps.Perm (irng 0 n) → Post (LI ps)
theorem m_l_shuffled {rk : RK} : ∀ ds Post, S_l_shuffled ds Post → wb_l_shuffled S_l_next { nx := fun _ => Post .none ∧ rk = .fz, rt := fun d _ => Post d } (startE 4 ds) := by
  rintro ds Post ⟨n, rfl, h0, h1, h⟩
  unfold wb_l_shuffled
  walk_at "start"
  walk_at "run"
  refine while_st [2, 3] (fun vs => ∃ l f : List Int, (f ++ l).Perm (irng 0 n) ∧ vs = [some (LI l), some (LI f)]) (fun vs => match vs with | some (.list l) :: _ => l.length | _ => 0) [_, _] rfl ⟨_, [], .refl _, rfl⟩ ?_
  rintro _ ⟨l, f, hp, rfl⟩ R hR
  have hlen := hp.length_eq
  rw [ints_len, List.length_append] at hlen
  by_cases e : l = []
  · walk_at "run"
    subst e
    exact h f (by simpa using hp)
  · have hl : 0 < l.length := List.length_pos_iff.mpr e
    walk_at "run"
    refine next_i (by omega) (by omega) fun r r0 r1 => ?_
    walk_at "run"
    have hr : r.toNat < l.length := by omega
    refine hR [_, _] ⟨_, _, ?_, rfl⟩ ?_
    · rw [List.append_assoc, getElem!_pos l r.toNat hr]
      exact ((erase_perm hr).append_left f).trans hp
    · simp only [List.length_map, List.length_eraseIdx]
      rw [if_pos hr]; omega
/-- _law_pair: slots 0 a:r, 1 b:r; modes ['rd', 'rd']; answer fz -/
def wb_l_pair : WS :=
  (wRet (wTup (waCons (wBlt min2D (waCons (wVar 0) (waCons (wVar 1) waNil))) (waCons (wBlt max2D (waCons (wVar 0) (waCons (wVar 1) waNil))) waNil))))
def pr (a b : Int) : Int × Int := (if b < a then b else a, if b > a then b else a)
def S_l_pair : FS := fun ds Post => ∃ a b : Int, ds = [.int a, .int b] ∧ Post (dP (pr a b))
theorem m_l_pair {rk : RK} : ∀ ds Post, S_l_pair ds Post → wb_l_pair { nx := fun _ => Post .none ∧ rk = .fz, rt := fun d _ => Post d } (startE 2 ds) := by
  rintro ds Post ⟨a, b, rfl, h⟩
  unfold wb_l_pair
  walk_at "start"
  walk_at "run"
  exact h
theorem pr_rg {a b n : Int} (ha : 0 ≤ a ∧ a < n) (hb : 0 ≤ b ∧ b < n) (ne : a ≠ b) : 0 ≤ (pr a b).1 ∧ (pr a b).1 < (pr a b).2 ∧ (pr a b).2 < n := by
  unfold pr; simp only; split <;> split <;> omega
/-- _law_web: slots 0 pool:p, 1 most:r, 2 room:r, 3 whole:r, 4 many:v, 5 share:v, 6 ties:o, 7 order:v, 8 k:v, 9 pairs:o, 10 b:v, 11 a:v; modes ['pl', 'rd', 'rd', 'rd']; answer fz -/
def wb_l_webD (S_l_next : FS) (S_l_shuffled : FS) (S_l_pair : FS) : WS :=
  (wSeq (wAsg 4 (wOp2 addD (wC (.int 1)) (wCall S_l_next (waCons (wVar 0) (waCons (wVar 1) waNil)))))
    (wSeq (wAsg 5 (wOp2 ixD (wList (waCons (wC (.int 0)) (waCons (wC (.int 1)) (waCons (wC (.int 2)) (waCons (wC (.int 3)) (waCons (wC (.int 4)) (waCons (wC (.int 6)) waNil))))))) (wCall S_l_next (waCons (wVar 0) (waCons (wC (.int 6)) waNil)))))
    (wSeq (wAsg 6 (wC (dTD [])))
    (wSeq (wAsg 7 (wCall S_l_shuffled (waCons (wVar 0) (waCons (wVar 4) waNil))))
    (wSeq (wIf (tVal (wVar 3)) (wFor (wiRg2 (wC (.int 1)) (wVar 4)) (gN 8) (wDputT 6 (wC (.bool true)) (wCall S_l_pair (waCons (wOp2 ixD (wVar 7) (wVar 8)) (waCons (wOp2 ixD (wVar 7) (wCall S_l_next (waCons (wVar 0) (waCons (wVar 8) waNil)))) waNil))))) wNil)
    (wSeq (wIf (tAnd (tVal (wOp2 gtD (wVar 4) (wC (.int 2)))) (tAnd (tVal (wOp2 leD (wOp2 addD (wBlt lenTD (waCons (wVar 6) waNil)) (wVar 4)) (wVar 2))) (tVal (wOp2 eqD (wCall S_l_next (waCons (wVar 0) (waCons (wC (.int 3)) waNil))) (wC (.int 0)))))) (wFor (wiRg1 (wVar 4)) (gN 8) (wDputT 6 (wC (.bool true)) (wCall S_l_pair (waCons (wOp2 ixD (wVar 7) (wVar 8)) (waCons (wOp2 ixD (wVar 7) (wOp2 subD (wVar 8) (wC (.int 1)))) waNil))))) wNil)
    (wSeq (wAsg 9 (wList waNil))
    (wSeq (wFor (wiRg1 (wVar 4)) (gN 10) (wExpr (wMut 9 extendF (waCons (wComp (wiRg1 (wVar 10)) (gN 11) [11] G7.tYes (wTup (waCons (wVar 11) (waCons (wVar 10) waNil)))) waNil))))
    (wSeq (wFor (wiSeq (wCall S_l_shuffled (waCons (wVar 0) (waCons (wBlt lenD (waCons (wVar 9) waNil)) waNil)))) (gN 8) (wIf (tAnd (tVal (wOp2 ltD (wCall S_l_next (waCons (wVar 0) (waCons (wC (.int 6)) waNil))) (wVar 5))) (tVal (wOp2 ltD (wBlt lenTD (waCons (wVar 6) waNil)) (wVar 2)))) (wDputT 6 (wC (.bool true)) (wOp2 ixD (wVar 9) (wVar 8))) wNil))
    (wRet (wTup (waCons (wVar 4) (waCons (wBlt tupD (waCons (wKeysT 6) waNil)) waNil)))))))))))))
/-- all in one piece -/
def whole (w : Web) : Prop := ∀ p q, 0 ≤ p → p < w.n → 0 ≤ q → q < w.n → Reach w p q
def S_l_webD : FS := fun ds Post => ∃ (m c : Int) (b : Bool), ds = [.none, .int m, .int c, .bool b] ∧ 1 ≤ m ∧ m ≤ 9 ∧ (b = true → m - 1 ≤ c) ∧ 0 ≤ c ∧ c ≤ 20 ∧ ∀ w : Web, w.ok → w.n ≤ m → (w.ts.length : Int) ≤ c → (b = true → whole w) → Post (dW w)
theorem Reach.more {n : Int} {ks ms : List (Int × Int)} (s : ∀ t ∈ ks, t ∈ ms) {p q : Int} (h : Reach ⟨n, ks⟩ p q) : Reach ⟨n, ms⟩ p q := by
  induction h with
  | refl => exact .refl
  | step _ t ih => exact ih.step (t.imp (s _) (s _))
theorem pr_T {n : Int} {ks : List (Int × Int)} {a b : Int} (h : pr a b ∈ ks) : T ⟨n, ks⟩ a b := by
  unfold pr at h
  by_cases c : b < a
  · right
    rw [if_pos c, if_neg (by omega)] at h
    exact h
  · left
    by_cases d : b > a
    · rw [if_neg c, if_pos d] at h; exact h
    · rw [if_neg c, if_neg d] at h
      have : a = b := by omega
      subst this; exact h
theorem good.put {n : Int} {ks : List (Int × Int)} {t : Int × Int} (g : good n ks) (h : 0 ≤ t.1 ∧ t.1 < t.2 ∧ t.2 < n) : good n (sput ks t) :=
  ⟨nodup_sput g.nd, fun u hu => by rcases mem_sput.mp hu with rfl | hu; exact h; exact g.rg u hu⟩
theorem perm_at {os : List Int} {n : Int} (hos : os.Perm (irng 0 n)) {i : Int} (h0 : 0 ≤ i) (h1 : i < n) : 0 ≤ gI os i ∧ gI os i < n := by
  have hl := hos.length_eq
  rw [ints_len] at hl
  exact mem_ints.mp (hos.mem_iff.mp (gI_mem h0 (by omega)))
theorem perm_ne {os : List Int} {n : Int} (hos : os.Perm (irng 0 n)) {i j : Int} (h0 : 0 ≤ i) (h1 : i < n) (h2 : 0 ≤ j) (h3 : j < n) (ne : i ≠ j) : gI os i ≠ gI os j := by
  have hl := hos.length_eq
  rw [ints_len] at hl
  have nd : os.Nodup := hos.nodup_iff.mpr ((ints_sorted _ _).imp fun h => by omega)
  unfold gI
  rw [getElem!_pos os i.toNat (by omega), getElem!_pos os j.toNat (by omega)]
  intro e
  rcases Int.lt_or_gt_of_ne ne with c | c
  · exact List.pairwise_iff_getElem.mp nd i.toNat j.toNat (by omega) (by omega) (by omega) e
  · exact List.pairwise_iff_getElem.mp nd j.toNat i.toNat (by omega) (by omega) (by omega) e.symm
theorem perm_all {os : List Int} {n : Int} (hos : os.Perm (irng 0 n)) {p : Int} (h0 : 0 ≤ p) (h1 : p < n) : ∃ i, 0 ≤ i ∧ i < n ∧ gI os i = p := by
  have hm : p ∈ os := hos.mem_iff.mpr (mem_ints.mpr ⟨h0, h1⟩)
  have hl := hos.length_eq
  rw [ints_len] at hl
  obtain ⟨i, hi, e⟩ := List.mem_iff_getElem.mp hm
  exact ⟨i, by omega, by omega, by unfold gI; rw [Int.toNat_natCast, getElem!_pos os i hi, e]⟩
theorem m_l_webD {rk : RK} : ∀ ds Post, S_l_webD ds Post → wb_l_webD S_l_next S_l_shuffled S_l_pair { nx := fun _ => Post .none ∧ rk = .fz, rt := fun d _ => Post d } (startE 12 ds) := by
  rintro ds Post ⟨m, c, b, rfl, m1, m9, hb, c0, c20, hP⟩
  unfold wb_l_webD
  walk_at "start"
  walk_at "run"
  refine next_i (by omega) (by omega) fun n0 hn0 hn1 => ?_
  obtain ⟨n, rfl⟩ : ∃ n, n0 = n - 1 := ⟨n0 + 1, by omega⟩
  walk_at "run"
  rw [show 1 + (n - 1) = n by omega]
  refine next_i (by omega) (by omega) fun r hr0 hr1 => ?_
  walk_at "run"
  have hsh : ∃ sh, ixD (.list [.int 0, .int 1, .int 2, .int 3, .int 4, .int 6]) (.int r) = some (.int sh) := by
    have : r = 0 ∨ r = 1 ∨ r = 2 ∨ r = 3 ∨ r = 4 ∨ r = 5 := by omega
    rcases this with rfl | rfl | rfl | rfl | rfl | rfl <;> exact ⟨_, rfl⟩
  obtain ⟨sh, hsh⟩ := hsh
  refine i_ex hsh ?_
  walk_at "run"
  refine ⟨n, rfl, by omega, by omega, fun os hos => ?_⟩
  have hol := hos.length_eq
  rw [ints_len] at hol
  walk_at "env"
  refine cut_st [6, 8] (fun vs => ∃ ks x, good n ks ∧ (ks.length : Int) ≤ c ∧ (b = true → ∀ p q, 0 ≤ p → p < n → 0 ≤ q → q < n → Reach ⟨n, ks⟩ p q) ∧ vs = [some (dTP ks), x]) (fun R hR => ?_) ?_
  · walk_at "run"
    cases b with
    | false =>
      walk_at "run"
      exact hR [_, _] ⟨[], _, ⟨by simp, by simp⟩, c0, by simp, rfl⟩
    | true =>
      have hc := hb rfl
      have base : ∀ i : Int, 0 ≤ i → i ≤ (([] : List Int).length : Int) → i < n → Reach ⟨n, []⟩ (gI os 0) (gI os i) := fun i h0 h1 _ => by
        have : i = 0 := by rw [List.length_nil] at h1; omega
        subst this
        exact .refl
      walk_at "run"
      refine for_st [6, 8] (fun pre vs => ∃ ks x, good n ks ∧ ks.length ≤ pre.length ∧ (∀ i : Int, 0 ≤ i → i ≤ pre.length → i < n → Reach ⟨n, ks⟩ (gI os 0) (gI os i)) ∧ vs = [some (dTP ks), x]) [_, _] rfl
        ⟨[], _, ⟨by simp, by simp⟩, by simp, base, rfl⟩ ?_ ?_
      · rintro pre k post _ hL ⟨ks, x, g, hl, hre, rfl⟩ R2 hR2
        have hk := mem_ints.mp (show k ∈ irng 1 n by rw [hL]; simp)
        have hpk : k = 1 + (pre.length : Int) := by
          have h1 := ints_get (lo := 1) (hi := n) (k := pre.length) (by
            have := congrArg List.length hL
            rw [ints_len, List.length_append, List.length_cons] at this; omega)
          rw [hL, List.getElem?_append_right (Nat.le_refl _)] at h1
          simpa using h1
        walk_at "run"
        refine next_i (by omega) (by omega) fun j j0 j1 => ?_
        walk_at "run"
        refine ⟨_, _, rfl, ?_⟩
        walk_at "run"
        have hne := perm_ne hos (i := k) (j := j) (by omega) hk.2 j0 (by omega) (by omega)
        refine hR2 [_, _] ⟨_, _, g.put (pr_rg (perm_at hos (by omega) hk.2) (perm_at hos j0 (by omega)) hne), ?_, ?_, rfl⟩
        · have := len_sput ks (pr (gI os k) (gI os j))
          rw [List.length_append, List.length_singleton]; omega
        · intro i h0 h1 h2
          rw [List.length_append, List.length_singleton] at h1
          have sub : ∀ t ∈ ks, t ∈ sput ks (pr (gI os k) (gI os j)) := fun t ht => mem_sput.mpr (.inr ht)
          by_cases e : i = k
          · subst e
            have hj := (hre j j0 (by omega) (by omega)).more sub
            exact hj.step (pr_T (mem_sput.mpr (.inl rfl))).symm
          · exact (hre i h0 (by omega) h2).more sub
      · rintro _ ⟨ks, x, g, hl, hre, rfl⟩
        walk_at "run"
        rw [ints_len] at hl
        refine hR [_, _] ⟨_, _, g, by omega, fun _ p q p0 p1 q0 q1 => ?_, rfl⟩
        rw [ints_len] at hre
        obtain ⟨i, i0, i1, rfl⟩ := perm_all hos p0 p1
        obtain ⟨j, j0, j1, rfl⟩ := perm_all hos q0 q1
        exact (hre i i0 (by omega) i1).symm.trans (hre j j0 (by omega) j1)
  rintro _ ⟨ks, x, g, hl, hre, rfl⟩
  walk_at "env"
  refine cut_st [6, 8] (fun vs => ∃ ks x, good n ks ∧ (ks.length : Int) ≤ c ∧ (b = true → ∀ p q, 0 ≤ p → p < n → 0 ≤ q → q < n → Reach ⟨n, ks⟩ p q) ∧ vs = [some (dTP ks), x]) (fun R hR => ?_) ?_
  · by_cases h2 : 2 < n
    · by_cases h3 : (ks.length : Int) + n ≤ c
      · walk_at "run"
        refine next_i (by omega) (by omega) fun j j0 j1 => ?_
        by_cases h4 : j = 0
        · walk_at "run"
          refine for_st [6, 8] (fun pre vs => ∃ ks' x, good n ks' ∧ ks'.length ≤ ks.length + pre.length ∧ (∀ t ∈ ks, t ∈ ks') ∧ vs = [some (dTP ks'), x]) [_, _] rfl ⟨ks, _, g, by simp, fun t ht => ht, rfl⟩ ?_ ?_
          · rintro pre k post _ hL ⟨ks', x, g', hl', hs', rfl⟩ R2 hR2
            have hk := mem_ints.mp (show k ∈ irng 0 n by rw [hL]; simp)
            have hpl : pre.length ≤ 9 := by
              have := congrArg List.length hL
              rw [ints_len, List.length_append] at this; omega
            walk_at "run"
            have hix : ∃ j, 0 ≤ j ∧ j < n ∧ j ≠ k ∧ ixD (LI os) (.int (k - 1)) = some (.int (gI os j)) := by
              by_cases c : k = 0
              · subst c
                refine ⟨n - 1, by omega, by omega, by omega, ?_⟩
                have e : ixN (os.map PyData.int).length (0 - 1) = some (n - 1).toNat := by
                  rw [List.length_map]; simp [ixN]; omega
                simp only [ixD, e, Option.bind_some]
                rw [List.getElem?_map, List.getElem?_eq_getElem (by omega)]
                unfold gI
                rw [getElem!_pos os _ (by omega)]; rfl
              · exact ⟨k - 1, by omega, by omega, by omega, ixD_lm (by omega) (by omega)⟩
            obtain ⟨j, j0, j1, jk, hix⟩ := hix
            refine i_ex hix ?_
            walk_at "run"
            refine ⟨_, _, rfl, ?_⟩
            walk_at "run"
            refine hR2 [_, _] ⟨_, _, g'.put (pr_rg (perm_at hos hk.1 hk.2) (perm_at hos j0 j1) (perm_ne hos hk.1 hk.2 j0 j1 (fun z => jk z.symm))), ?_, fun t ht => mem_sput.mpr (.inr (hs' t ht)), rfl⟩
            have := len_sput ks' (pr (gI os k) (gI os j))
            rw [List.length_append, List.length_singleton]; omega
          · rintro _ ⟨ks', x, g', hl', hs', rfl⟩
            walk_at "run"
            rw [ints_len] at hl'
            exact hR [_, _] ⟨_, _, g', by omega, fun hbt p q p0 p1 q0 q1 => (hre hbt p q p0 p1 q0 q1).more hs', rfl⟩
        · walk_at "run"
          exact hR [_, _] ⟨_, _, g, hl, hre, rfl⟩
      · walk_at "run"
        exact hR [_, _] ⟨_, _, g, hl, hre, rfl⟩
    · walk_at "run"
      exact hR [_, _] ⟨_, _, g, hl, hre, rfl⟩
  rintro _ ⟨ks, x, g, hl, hre, rfl⟩
  walk_at "run"
  refine for_st [9, 10] (fun pre vs => ∃ (ps : List (Int × Int)) (x : Option D), (∀ t ∈ ps, 0 ≤ t.1 ∧ t.1 < t.2 ∧ t.2 < n) ∧ (ps.length : Int) ≤ 9 * (pre.length : Int) ∧ vs = [some (LP ps), x]) [_, _] rfl ⟨[], _, by simp, by simp, rfl⟩ ?_ ?_
  · rintro pre k post _ hL ⟨ps, y, hps, hlen, rfl⟩ R hR
    have hk := mem_ints.mp (show k ∈ irng 0 n by rw [hL]; simp)
    have hpl : pre.length ≤ 9 := by
      have := congrArg List.length hL
      rw [ints_len, List.length_append] at this; omega
    walk_at "run"
    refine comp_all (en2 := dP) (fun a => (a, k)) (fun a ha => ⟨_, rfl, fun R hR => ?_, rfl⟩) ?_
    · walk_at "run"; exact hR
    have hil := ints_len 0 k
    walk_at "run"
    refine hR [_, _] ⟨_, _, fun t ht => ?_, ?_, rfl⟩
    · rcases List.mem_append.mp ht with ht | ht
      · exact hps t ht
      · obtain ⟨a, ha, rfl⟩ := List.mem_map.mp ht
        have := mem_ints.mp ha
        simp only; omega
    · rw [List.length_append, List.length_append, List.length_map, hil, List.length_singleton]; omega
  rintro _ ⟨ps, y, hps, hlen, rfl⟩
  rw [ints_len] at hlen
  walk_at "run"
  refine ⟨ps.length, rfl, by omega, by omega, fun qs hqs => ?_⟩
  walk_at "run"
  refine for_st [6, 8] (fun pre vs => ∃ ks x, good n ks ∧ (ks.length : Int) ≤ c ∧ (b = true → ∀ p q, 0 ≤ p → p < n → 0 ≤ q → q < n → Reach ⟨n, ks⟩ p q) ∧ vs = [some (dTP ks), x]) [_, _] rfl ⟨_, _, g, hl, hre, rfl⟩ ?_ ?_
  · rintro pre k post _ hL ⟨ks, x, g, hl, hre, rfl⟩ R hR
    have hk := mem_ints.mp (hqs.mem_iff.mp (show k ∈ qs by rw [hL]; simp))
    walk_at "run"
    refine next_i (by omega) (by omega) fun j j0 j1 => ?_
    by_cases h1 : j < sh
    · by_cases h2 : (ks.length : Int) < c
      · walk_at "run"
        have hm : ps[k.toNat]! ∈ ps := by rw [getElem!_pos ps k.toNat (by omega)]; exact List.getElem_mem _
        refine hR [_, _] ⟨_, _, g.put (hps _ hm), ?_, fun hbt p q p0 p1 q0 q1 => (hre hbt p q p0 p1 q0 q1).more fun t ht => mem_sput.mpr (.inr ht), rfl⟩
        have := len_sput ks (ps[k.toNat]!)
        omega
      · walk_at "run"
        exact hR [_, _] ⟨_, _, g, hl, hre, rfl⟩
    · walk_at "run"
      exact hR [_, _] ⟨_, _, g, hl, hre, rfl⟩
  rintro _ ⟨ks, x, g, hl, hre, rfl⟩
  walk_at "run"
  have hpl := (psort_perm ks).length_eq
  refine hP ⟨n, psort ks⟩ (g.web (by omega) (by omega) (by omega)) (by simp only; omega) (by simp only; omega) fun hbt p q p0 p1 q0 q1 => ?_
  exact (hre hbt p q p0 p1 q0 q1).more fun t ht => (psort_perm ks).mem_iff.mpr ht
/-- _law_flows: slots 0 web:r, 1 pointing:r, 2 found:o, 3 k:v, 4 a:v, 5 b:v; modes ['rd', 'rd']; answer fz -/
def wb_l_flows : WS :=
  (wSeq (wAsg 2 (wList waNil))
    (wSeq (wFor (wiEnum (wOp2 ixD (wVar 0) (wC (.int 1)))) (gT [(gN 3), (gT [(gN 4), (gN 5)])]) (wExpr (wMut 2 appendF (waCons (wOp2 ixD (wList (waCons (wTup (waCons (wVar 5) (waCons (wVar 4) waNil))) (waCons (wTup (waCons (wVar 4) (waCons (wVar 5) waNil))) waNil))) (wOp2 ixD (wVar 1) (wVar 3))) waNil))))
    (wRet (wVar 2))))
def S_l_flows : FS := fun ds Post => ∃ w p, ds = [dW w, TI p] ∧ w.ts.length ≤ 1000 ∧ isP w p ∧ Post (LP (arw w p))
theorem arw_take {w : Web} {p : List Int} {i : Nat} (hi : i < w.ts.length) (hp : i < p.length) : (arw w p).take (i + 1) = (arw w p).take i ++ [if p[i] = 1 then w.ts[i] else (w.ts[i].2, w.ts[i].1)] := by
  have hl : i < (arw w p).length := by unfold arw; rw [List.length_zipWith]; omega
  rw [List.take_succ_eq_append_getElem hl]
  simp [arw]
theorem enum_pre {α : Type} [Inhabited α] {L : List α} {pre post : List (Int × α)} {x : Int × α} (h : enumL L = pre ++ x :: post) : x = ((pre.length : Int), L[pre.length]!) ∧ pre.length < L.length := by
  have hl := congrArg List.length h
  unfold enumL at hl
  rw [List.length_zip, ints_len, List.length_append, List.length_cons] at hl
  have hlt : pre.length < L.length := by omega
  refine ⟨?_, hlt⟩
  have h2 : (enumL L)[pre.length]? = some x := by rw [h, List.getElem?_append_right (Nat.le_refl _)]; simp
  unfold enumL at h2
  rw [List.getElem?_zip_eq_some] at h2
  obtain ⟨h3, h4⟩ := h2
  rw [ints_get (by omega)] at h3
  rw [List.getElem?_eq_getElem hlt] at h4
  have h3 := Option.some.inj h3
  have h4 := Option.some.inj h4
  refine Prod.ext ?_ ?_
  · simp only; omega
  · simp only; rw [getElem!_pos L pre.length hlt]; exact h4.symm
theorem m_l_flows {rk : RK} : ∀ ds Post, S_l_flows ds Post → wb_l_flows { nx := fun _ => Post .none ∧ rk = .fz, rt := fun d _ => Post d } (startE 6 ds) := by
  rintro ds Post ⟨w, p, rfl, hw, hp, hP⟩
  unfold wb_l_flows
  have hl := hp.1
  walk_at "start"
  walk_at "run"
  refine for_st [2, 3, 4, 5] (fun pre vs => ∃ l a b c, l = (arw w p).take pre.length ∧ vs = [some (LP l), a, b, c]) [_, _, _, _] rfl ⟨[], _, _, _, rfl, rfl⟩ ?_ ?_
  · rintro pre x post _ hL ⟨l, a, b, c, hl2, rfl⟩ R hR
    obtain ⟨rfl, hlt⟩ := enum_pre hL
    have hx : p[pre.length] = 0 ∨ p[pre.length] = 1 := hp.2 _ (List.getElem_mem (by omega))
    have hix : ixD (TI p) (.int (pre.length : Int)) = some (.int p[pre.length]) := by
      have := ixD_tm (f := PyData.int) (L := p) (i := (pre.length : Int)) (by omega) (by omega)
      rw [Int.toNat_natCast, getElem!_pos p pre.length (by omega)] at this
      exact this
    have hxx : ∀ t : Int × Int, ixD (.list [.tuple [.int t.2, .int t.1], .tuple [.int t.1, .int t.2]]) (.int p[pre.length]) = some (dP (if p[pre.length] = 1 then t else (t.2, t.1))) := fun t => by
      rcases hx with e | e <;> rw [e] <;> rfl
    have hg : p[((pre.length : Int)).toNat]! = p[pre.length] := by rw [Int.toNat_natCast, getElem!_pos p pre.length (by omega)]
    walk_at "run"
    rw [hg]
    refine i_ex (hxx _) ?_
    have hle : l.length ≤ 1000 := by rw [hl2, List.length_take, arw_len hp]; omega
    walk_at "run"
    refine hR [_, _, _, _] ⟨_, _, _, _, ?_, rfl⟩
    rw [List.length_append, List.length_singleton, arw_take hlt (by omega), getElem!_pos w.ts pre.length hlt, hl2]
  · rintro _ ⟨l, a, b, c, hl2, rfl⟩
    walk_at "run"
    have : (enumL w.ts).length = w.ts.length := by unfold enumL; rw [List.length_zip, ints_len]; omega
    rw [hl2, this, List.take_of_length_le (by rw [arw_len hp]; exact Nat.le_refl _)]
    exact hP
/-- _law_is_fall: slots 0 web:r, 1 pointing:r, 2 flows:v, 3 left:v, 4 turn:v, 5 ends:v, 6 begin:v, 7 end:v, 8 place:v; modes ['rd', 'rd']; answer fz -/
def wb_l_is_fallC (S_l_flows : FS) : WS :=
  (wSeq (wAsg 2 (wCall S_l_flows (waCons (wVar 0) (waCons (wVar 1) waNil))))
    (wSeq (wAsg 3 (wLstRg (wiRg1 (wOp2 ixD (wVar 0) (wC (.int 0))))))
    (wSeq (wFor (wiRg1 (wOp2 ixD (wVar 0) (wC (.int 0)))) (gN 4) (wSeq (wAsg 5 (wComp (wiSeq (wVar 2)) (gT [(gN 6), (gN 7)]) [6, 7] (tVal (wOp2 inD (wVar 6) (wVar 3))) (wVar 7)))
    (wAsg 3 (wComp (wiSeq (wVar 3)) (gN 8) [8] (tVal (wOp2 inD (wVar 8) (wVar 5))) (wVar 8)))))
    (wRet (wOp2 eqD (wVar 3) (wList waNil))))))
theorem filt_perm (f l : List Int) (q : Int → Bool) {n : List Int} (h : (f ++ l).Perm n) : ((f ++ l.filter fun x => !q x) ++ l.filter q).Perm n := by
  rw [List.append_assoc]
  refine List.Perm.trans (List.Perm.append_left f ?_) h
  exact List.perm_append_comm.trans (List.filter_append_perm q l)
theorem m_l_is_fallC {rk : RK} : ∀ ds Post, S_is_fall ds Post → wb_l_is_fallC S_l_flows { nx := fun _ => Post .none ∧ rk = .fz, rt := fun d _ => Post d } (startE 9 ds) := by
  rintro ds Post ⟨w, p, rfl, o, hp, hP⟩
  have n1 := o.n1
  have n9 := o.n9
  have h20 := o.len
  have hT : Acyc (arw w p) → Post (.bool true) := fun h => by rw [acB_t.mpr h] at hP; exact hP
  have hF : ¬ Acyc (arw w p) → Post (.bool false) := fun h => by rw [acB_f.mpr h] at hP; exact hP
  unfold wb_l_is_fallC
  walk_at "start"
  walk_at "run"
  refine ⟨w, p, rfl, by omega, hp, ?_⟩
  have hrg := arw_rg o (p := p)
  generalize arw w p = ls at *
  walk_at "run"
  have nd0 : (irng 0 w.n).Nodup := (ints_sorted _ _).imp fun h => by omega
  have h0l : ((irng 0 w.n).length : Int) ≤ w.n - ((([] : List Int).length : Nat) : Int) := by rw [ints_len, List.length_nil]; omega
  refine for_st [3, 4, 5] (fun pre vs => ∃ (l f : List Int) (a b : Option D), (f ++ l).Perm (irng 0 w.n) ∧ Topo ls f ∧ (Acyc ls → (l.length : Int) ≤ w.n - pre.length ∨ l = []) ∧ vs = [some (LI l), a, b]) [_, _, _] rfl
    ⟨_, [], _, _, .refl _, .nil, fun _ => .inl h0l, rfl⟩ ?_ ?_
  · rintro pre x post _ hL ⟨l, f, a, b, hpm, ht, hlen, rfl⟩ R hR
    walk_at "runc"
    have he : ∀ q, q ∈ l.filter (fun x => decide (x ∈ List.map Prod.snd (List.filter (fun x => decide (x.fst ∈ l)) ls))) ↔ q ∈ l ∧ ∃ a ∈ l, (a, q) ∈ ls := fun q => by
      simp only [List.mem_filter, List.mem_map, decide_eq_true_eq]
      refine and_congr_right fun _ => ⟨?_, ?_⟩
      · rintro ⟨⟨x, y⟩, ⟨h1, h2⟩, rfl⟩; exact ⟨x, h2, h1⟩
      · rintro ⟨a, h1, h2⟩; exact ⟨(a, q), ⟨h2, h1⟩, rfl⟩
    have hnd : (f ++ l).Nodup := hpm.nodup_iff.mpr nd0
    rw [List.nodup_append] at hnd
    refine hR [_, _, _] ⟨_, _, _, _, filt_perm f l (fun x => decide (x ∈ List.map Prod.snd (List.filter (fun x => decide (x.fst ∈ l)) ls))) hpm, ?_, ?_, rfl⟩
    · refine ht.app (hnd.2.1.filter _) (fun q hq c => hnd.2.2 q c q (List.mem_filter.mp hq).1 rfl) fun q hq a ha => ?_
      obtain ⟨hql, hqn⟩ := List.mem_filter.mp hq
      have : a ∈ f ++ l := hpm.mem_iff.mpr (mem_ints.mpr (hrg _ ha).1)
      rcases List.mem_append.mp this with c | c
      · exact c
      · exfalso
        have h3 := (he q).mpr ⟨hql, a, c, ha⟩
        have h4 := (List.mem_filter.mp h3).2
        rw [h4] at hqn
        simp at hqn
    · intro hA
      rw [List.length_append, List.length_singleton]
      by_cases e : l = []
      · right; rw [e]; rfl
      · left
        obtain ⟨q, hq, hno⟩ := hA.stuck e
        have hlt : (l.filter (fun x => decide (x ∈ List.map Prod.snd (List.filter (fun x => decide (x.fst ∈ l)) ls)))).length < l.length := by
          refine Nat.lt_of_le_of_ne (List.length_filter_le _ _) fun c => ?_
          have := List.filter_eq_self.mp (List.filter_sublist.eq_of_length c) q hq
          obtain ⟨_, a, ha, hb⟩ := (he q).mp (List.mem_filter.mpr ⟨hq, this⟩)
          exact hno a ha hb
        rcases hlen hA with h | h
        · omega
        · exact absurd h e
  · rintro _ ⟨l, f, a, b, hpm, ht, hlen, rfl⟩
    walk_at "run"
    rw [ints_len] at hlen
    by_cases e : l = []
    · subst e
      have hA : Acyc ls := ht.acyc fun t h => by
        have := hpm.mem_iff.mpr (mem_ints.mpr (hrg t h).2)
        simpa using this
      simpa using hT hA
    · have hA : ¬ Acyc ls := fun c => by
        rcases hlen c with h | h
        · have : 0 < l.length := List.length_pos_iff.mpr e
          omega
        · exact e h
      simpa [e] using hF hA
end Lib
end G7
namespace G7
namespace Lib
open PySem
inductive Way (ls : Ar) (a : Int) : Int → Prop
  | nil : Way ls a a
  | snoc {b c : Int} : Way ls a b → (b, c) ∈ ls → Way ls a c
theorem Way.trans {ls : Ar} {a b c : Int} (h : Way ls a b) (g : Way ls b c) : Way ls a c := by
  induction g with
  | nil => exact h
  | snoc _ e ih => exact .snoc ih e
theorem Way.more {ls ms : Ar} (s : ∀ t ∈ ls, t ∈ ms) {a b : Int} (h : Way ls a b) : Way ms a b := by
  induction h with
  | nil => exact .nil
  | snoc _ e ih => exact .snoc ih (s _ e)
theorem Way.one {ls : Ar} {a b : Int} (h : (a, b) ∈ ls) : Way ls a b := .snoc .nil h
theorem Way.up {ls : Ar} {h : Int → Int} (hh : ∀ t ∈ ls, h t.1 < h t.2) {a b : Int} (g : Way ls a b) : a = b ∨ h a < h b := by
  induction g with
  | nil => exact .inl rfl
  | snoc _ e ih =>
    have := hh _ e
    rcases ih with rfl | ih
    · exact .inr this
    · exact .inr (Int.lt_trans ih this)
theorem Acyc.noway {ls : Ar} (h : Acyc ls) {a b : Int} (e : (b, a) ∈ ls) : ¬ Way ls a b := by
  obtain ⟨r, hr⟩ := h
  intro g
  have := hr _ e
  rcases g.up hr with rfl | h2
  · simp at this
  · simp only at this; omega
theorem Acyc.add {ls : Ar} (h : Acyc ls) {u v : Int} (n : ¬ Way ls u v) : Acyc ((v, u) :: ls) := by
  obtain ⟨r, hr⟩ := h
  refine ⟨fun x => r x + (open Classical in if Way ls u x then (if r u < r v then r v - r u + 1 else 1) else 0), fun t ht => ?_⟩
  rcases List.mem_cons.mp ht with rfl | ht
  · simp only [n, if_false, if_pos Way.nil]
    split <;> omega
  · have h1 := hr t ht
    have h2 : Way ls u t.1 → Way ls u t.2 := fun g => .snoc g ht
    simp only
    by_cases e : Way ls u t.1
    · rw [if_pos e, if_pos (h2 e)]
      split <;> omega
    · rw [if_neg e]
      split
      · split <;> omega
      · omega
theorem bnd (h : Int → Int) (ls : Ar) : ∃ K : Int, ∀ t ∈ ls, h t.1 < K ∧ h t.2 < K ∧ -K < h t.1 ∧ -K < h t.2 := by
  induction ls with
  | nil => exact ⟨0, fun t ht => by simp at ht⟩
  | cons t ls ih =>
    obtain ⟨K, hK⟩ := ih
    refine ⟨K.natAbs + (h t.1).natAbs + (h t.2).natAbs + 1, fun s hs => ?_⟩
    rcases List.mem_cons.mp hs with rfl | hs
    · omega
    · have := hK s hs
      omega
def arr (w : Web) (p : List Int) (k : Nat) : Int × Int := if p[k]! = 1 then w.ts[k]! else (w.ts[k]!.2, w.ts[k]!.1)
theorem arw_get {w : Web} {p : List Int} (h : isP w p) {k : Nat} (hk : k < p.length) : (arw w p)[k]? = some (arr w p k) := by
  have h2 := h.1
  have : k < (arw w p).length := by rw [arw_len h]; omega
  rw [List.getElem?_eq_getElem this]
  unfold arr
  rw [getElem!_pos p k hk, getElem!_pos w.ts k (by omega)]
  simp [arw]
theorem mem_arw {w : Web} {p : List Int} (h : isP w p) {t : Int × Int} : t ∈ arw w p ↔ ∃ k, k < p.length ∧ t = arr w p k := by
  rw [List.mem_iff_getElem?]
  constructor
  · rintro ⟨k, hk⟩
    have : k < (arw w p).length := by
      rcases Nat.lt_or_ge k (arw w p).length with c | c
      · exact c
      · rw [List.getElem?_eq_none c] at hk; simp at hk
    rw [arw_len h, ← h.1] at this
    rw [arw_get h this] at hk
    exact ⟨k, this, (Option.some.inj hk).symm⟩
  · rintro ⟨k, hk, rfl⟩
    exact ⟨k, arw_get h hk⟩
theorem ok_nd {w : Web} (o : w.ok) : w.ts.Nodup := o.srt.imp fun h c => by subst c; unfold lexP at h; omega
/-- the arrows but one -/
def but (w : Web) (p : List Int) (k : Nat) : Ar := (arw w p).filter fun t => decide (t ≠ arr w p k)
end Lib
end G7

namespace G7
namespace Lib
open PySem
def tch (q : Int) (t : Int × Int) : Bool := decide (q = t.1 ∨ q = t.2)
def abtF (w : Web) (p : List Int) (q : Int) : List Int := List.zipWith (fun t x => if tch q t = true then 1 - x else x) w.ts p
theorem abt_len {w : Web} {p : List Int} {q : Int} (h : isP w p) : (abtF w p q).length = w.ts.length := by
  unfold abtF; rw [List.length_zipWith, h.1, Nat.min_self]
theorem bitsum {x : Int} (h : x = 0 ∨ x = 1) : 1 - x = 0 ∨ 1 - x = 1 := by omega
theorem abt_isP {w : Web} {p : List Int} {q : Int} (h : isP w p) : isP w (abtF w p q) := by
  refine ⟨abt_len h, fun x hx => ?_⟩
  obtain ⟨t, y, ht, hy, rfl⟩ := mem_zipWith hx
  have := h.2 y hy
  split
  · exact bitsum this
  · exact this
theorem abt_get {w : Web} {p : List Int} {q : Int} (h : isP w p) {k : Nat} (hk : k < p.length) : (abtF w p q)[k]! = if tch q w.ts[k]! = true then 1 - p[k]! else p[k]! := by
  have h1 := h.1
  rw [getElem!_pos (abtF w p q) k (by rw [abt_len h]; omega), getElem!_pos p k hk, getElem!_pos w.ts k (by omega)]
  simp [abtF]
theorem abt_arr {w : Web} {p : List Int} {q : Int} (h : isP w p) {k : Nat} (hk : k < p.length) : arr w (abtF w p q) k = if tch q (arr w p k) = true then ((arr w p k).2, (arr w p k).1) else arr w p k := by
  have hb : p[k]! = 0 ∨ p[k]! = 1 := by rw [getElem!_pos p k hk]; exact h.2 _ (List.getElem_mem hk)
  unfold arr
  rw [abt_get h hk]
  unfold tch
  rcases hb with e | e <;> rw [e] <;> simp <;> split <;> simp_all <;> grind
theorem abt_mem {w : Web} {p : List Int} {q : Int} (h : isP w p) {t : Int × Int} (ht : t ∈ arw w (abtF w p q)) : (tch q t = false ∧ t ∈ arw w p) ∨ (tch q t = true ∧ (t.2, t.1) ∈ arw w p) := by
  obtain ⟨k, hk, rfl⟩ := (mem_arw (abt_isP h)).mp ht
  rw [abt_len h, ← h.1] at hk
  rw [abt_arr h hk]
  have hm : arr w p k ∈ arw w p := (mem_arw h).mpr ⟨k, hk, rfl⟩
  split
  · next e =>
    right
    refine ⟨?_, hm⟩
    unfold tch at e ⊢
    simp only [decide_eq_true_eq] at e ⊢
    exact e.symm
  · next e => left; exact ⟨by simpa using e, hm⟩
/-- turning a source about keeps a fall a fall -/
theorem abt_source {w : Web} (o : w.ok) {p : List Int} {q : Int} (h : isP w p) (a : Acyc (arw w p)) (hs : q ∉ (arw w p).map Prod.snd) : Acyc (arw w (abtF w p q)) := by
  obtain ⟨r, hr⟩ := a
  obtain ⟨K, hK⟩ := bnd r (arw w p)
  refine ⟨fun x => if x = q then K else r x, fun t ht => ?_⟩
  have hq : ∀ t ∈ arw w p, t.2 ≠ q := fun t ht c => hs (List.mem_map.mpr ⟨t, ht, c⟩)
  rcases abt_mem h ht with ⟨e, hm⟩ | ⟨e, hm⟩
  · unfold tch at e
    simp only [decide_eq_false_iff_not, not_or] at e
    simp only
    rw [if_neg fun c => e.1 c.symm, if_neg fun c => e.2 c.symm]
    exact hr t hm
  · unfold tch at e
    simp only [decide_eq_true_eq] at e
    have h1 := hq _ hm
    have h2 := hK _ hm
    simp only at h1 h2
    rcases e with e | e
    · exact absurd e.symm h1
    · simp only
      rw [if_neg h1, if_pos e.symm]
      omega
theorem Acyc.end {ls : Ar} (h : Acyc ls) {l : List Int} (ne : l ≠ []) : ∃ p ∈ l, ∀ a ∈ l, (p, a) ∉ ls := by
  obtain ⟨r, hr⟩ := h
  obtain ⟨p, hp, hm⟩ := min_by (fun x => - r x) ne
  refine ⟨p, hp, fun a ha c => ?_⟩
  have := hr _ c
  have := hm a ha
  simp only at *
  omega
end Lib
end G7

namespace G7
namespace Lib
open PySem
theorem gI_set {l : List Int} {k j y : Int} (k0 : 0 ≤ k) (j0 : 0 ≤ j) (j1 : j < l.length) : gI (l.set k.toNat y) j = if j = k then y else gI l j := by
  unfold gI
  rw [getElem!_pos (l.set k.toNat y) j.toNat (by rw [List.length_set]; omega), List.getElem_set]
  by_cases e : j = k
  · subst e; simp
  · rw [if_neg (by omega), if_neg e, getElem!_pos l j.toNat (by omega)]
end Lib
end G7

namespace G7
namespace Lib
open PySem
def sprF (w : Web) (p : List Int) : List Int := (irng 0 w.n).filter fun q => !decide (q ∈ (arw w p).map Prod.snd)
end Lib
end G7

namespace G7
namespace Lib
open PySem
abbrev WSt := List (Int × List Int) × List Int
def visit (c : Int) (st : WSt) (be : Int × Int) : WSt := if be.1 = c ∧ st.1.lookup be.2 = none then (st.1 ++ [(be.2, ((st.1.lookup be.1).getD []) ++ [be.2])], st.2 ++ [be.2]) else st
def visit2 (c : Int) (st : WSt) (t : Int × Int) : WSt := visit c (visit c st t) (t.2, t.1)
def passW (laid : List (Int × Int)) (c : Int) (st : WSt) : WSt := laid.foldl (visit2 c) st
def goW (laid : List (Int × Int)) : Nat → Nat → WSt → WSt
  | 0, _, st => st
  | m + 1, i, st => if i < st.2.length then goW laid m (i + 1) (passW laid st.2[i]! st) else st
def startW (s : Int) : WSt := ([(s, [s])], [s])
def wayF (laid : List (Int × Int)) (s g : Int) : Option (List Int) := (goW laid 100 0 (startW s)).1.lookup g
/-- a way from s -/
inductive Pt (laid : List (Int × Int)) (s : Int) : Int → List Int → Prop
  | nil : Pt laid s s [s]
  | snoc {u v : Int} {l : List Int} : Pt laid s u l → ((u, v) ∈ laid ∨ (v, u) ∈ laid) → v ∉ l → Pt laid s v (l ++ [v])
theorem lookup_mem {α : Type} {m : List (Int × α)} {k : Int} {v : α} (h : m.lookup k = some v) : (k, v) ∈ m := by
  induction m with
  | nil => simp at h
  | cons t m ih =>
    obtain ⟨a, b⟩ := t
    rw [List.lookup_cons] at h
    split at h
    · rename_i e
      have : k = a := by simpa using e
      subst this; cases h; exact List.mem_cons_self
    · exact List.mem_cons_of_mem _ (ih h)
theorem lookup_none {α : Type} {m : List (Int × α)} {k : Int} : m.lookup k = none ↔ k ∉ m.map Prod.fst := by
  induction m with
  | nil => simp
  | cons t m ih =>
    obtain ⟨a, b⟩ := t
    rw [List.lookup_cons]
    by_cases e : k = a
    · subst e; simp
    · have : (k == a) = false := by simpa using e
      rw [this]
      simp only [List.map_cons, List.mem_cons, e, false_or]
      exact ih
structure WI (laid : List (Int × Int)) (s n : Int) (st : WSt) : Prop where
  ks : st.1.map Prod.fst = st.2
  nd : st.2.Nodup
  rg : ∀ x ∈ st.2, 0 ≤ x ∧ x < n
  hd : s ∈ st.2
  pt : ∀ v wy, (v, wy) ∈ st.1 → Pt laid s v wy ∧ ∀ x ∈ wy, x ∈ st.2
  re : ∀ x ∈ st.2, Reach ⟨n, laid⟩ s x
theorem WI.start {laid : List (Int × Int)} {s n : Int} (h : 0 ≤ s ∧ s < n) : WI laid s n (startW s) := by
  refine ⟨rfl, by simp [startW], fun x hx => ?_, by simp [startW], fun v wy h => ?_, fun x hx => ?_⟩
  · simp [startW] at hx; subst hx; exact h
  · simp [startW] at h; obtain ⟨rfl, rfl⟩ := h; exact ⟨.nil, by simp [startW]⟩
  · simp [startW] at hx; subst hx; exact .refl
theorem WI.visit {laid : List (Int × Int)} {s n c : Int} {st : WSt} {be : Int × Int} (h : WI laid s n st) (hb : be ∈ laid ∨ (be.2, be.1) ∈ laid) (hr : 0 ≤ be.2 ∧ be.2 < n) (hc : c ∈ st.2) : WI laid s n (Lib.visit c st be) ∧ (∀ x ∈ st.2, x ∈ (Lib.visit c st be).2) ∧ (be.1 = c → be.2 ∈ (Lib.visit c st be).2) ∧ ∃ r, (Lib.visit c st be).2 = st.2 ++ r := by
  unfold Lib.visit
  by_cases e : be.1 = c ∧ st.1.lookup be.2 = none
  · rw [if_pos e]
    obtain ⟨rfl, e2⟩ := e
    have hn : be.2 ∉ st.2 := by rw [← h.ks]; exact lookup_none.mp e2
    obtain ⟨wy, hw⟩ : ∃ wy, st.1.lookup be.1 = some wy := by
      cases q : st.1.lookup be.1 with
      | some wy => exact ⟨wy, rfl⟩
      | none => rw [lookup_none, h.ks] at q; exact absurd hc q
    obtain ⟨p1, p2⟩ := h.pt _ _ (lookup_mem hw)
    refine ⟨⟨by simp [h.ks], ?_, fun x hx => ?_, by simp [h.hd], fun v wy2 hv => ?_, fun x hx => ?_⟩, fun x hx => by simp [hx], fun _ => by simp, _, rfl⟩
    · rw [List.nodup_append]
      exact ⟨h.nd, by simp, fun a ha b hb e => by simp at hb; subst hb; subst e; exact hn ha⟩
    · rcases List.mem_append.mp hx with hx | hx
      · exact h.rg x hx
      · simp at hx; subst hx; exact hr
    · rcases List.mem_append.mp hv with hv | hv
      · obtain ⟨q1, q2⟩ := h.pt _ _ hv
        exact ⟨q1, fun x hx => List.mem_append_left _ (q2 x hx)⟩
      · simp only [List.mem_singleton, Prod.mk.injEq] at hv
        obtain ⟨rfl, rfl⟩ := hv
        rw [hw]
        refine ⟨.snoc p1 (by simpa using hb) fun z => hn (p2 _ z), fun x hx => ?_⟩
        simp only [Option.getD_some, List.mem_append, List.mem_singleton] at hx ⊢
        exact hx.imp (p2 x) id
    · rcases List.mem_append.mp hx with hx | hx
      · exact h.re x hx
      · simp at hx; subst hx; exact .step (h.re _ hc) (by simpa [T] using hb)
  · rw [if_neg e]
    refine ⟨h, fun x hx => hx, fun e1 => ?_, [], by simp⟩
    apply Classical.byContradiction
    intro c2
    exact e ⟨e1, lookup_none.mpr (by rw [h.ks]; exact c2)⟩
theorem WI.pass {laid : List (Int × Int)} {s n c : Int} (hrg : ∀ t ∈ laid, (0 ≤ t.1 ∧ t.1 < n) ∧ (0 ≤ t.2 ∧ t.2 < n)) : ∀ {pre : List (Int × Int)} {st : WSt}, (∀ t ∈ pre, t ∈ laid) → WI laid s n st → c ∈ st.2 →
    WI laid s n (passW pre c st) ∧ (∃ r, (passW pre c st).2 = st.2 ++ r) ∧ ∀ t ∈ pre, (t.1 = c → t.2 ∈ (passW pre c st).2) ∧ (t.2 = c → t.1 ∈ (passW pre c st).2)
  | [], st, _, h, _ => ⟨h, ⟨[], by simp [passW]⟩, by simp⟩
  | t :: pre, st, hp, h, hc => by
    have ht := hp t List.mem_cons_self
    have hr := hrg t ht
    obtain ⟨a1, a2, a3, r1, a4⟩ := h.visit (.inl ht) hr.2 hc
    obtain ⟨b1, b2, b3, r2, b4⟩ := a1.visit (be := (t.2, t.1)) (.inr ht) hr.1 (a2 c hc)
    obtain ⟨c1, ⟨r3, c2⟩, c3⟩ := WI.pass hrg (pre := pre) (fun t h => hp t (List.mem_cons_of_mem _ h)) b1 (b2 c (a2 c hc))
    have e : passW (t :: pre) c st = passW pre c (Lib.visit c (Lib.visit c st t) (t.2, t.1)) := rfl
    rw [e]
    refine ⟨c1, ⟨r1 ++ r2 ++ r3, by rw [c2, b4, a4]; simp⟩, fun u hu => ?_⟩
    rcases List.mem_cons.mp hu with rfl | hu
    · rw [c2]
      exact ⟨fun z => List.mem_append_left _ (b2 _ (a3 z)), fun z => List.mem_append_left _ (b3 z)⟩
    · exact c3 u hu
theorem WI.small {laid : List (Int × Int)} {s n : Int} {st : WSt} (h : WI laid s n st) (n0 : 0 ≤ n) : (st.2.length : Int) ≤ n := by
  have h1 := nodup_le (m := irng 0 n) h.nd fun x hx => mem_ints.mpr (h.rg x hx)
  rw [ints_len] at h1
  omega
/-- all that is left to be done -/
theorem WI.go {laid : List (Int × Int)} {s n : Int} (n0 : 0 ≤ n) (hrg : ∀ t ∈ laid, (0 ≤ t.1 ∧ t.1 < n) ∧ (0 ≤ t.2 ∧ t.2 < n)) : ∀ {m i : Nat} {st : WSt}, WI laid s n st → n < m + i → i ≤ st.2.length → (∀ j : Nat, j < i → ∀ t ∈ laid, (t.1 = st.2[j]! → t.2 ∈ st.2) ∧ (t.2 = st.2[j]! → t.1 ∈ st.2)) →
    WI laid s n (goW laid m i st) ∧ ∀ x ∈ (goW laid m i st).2, ∀ t ∈ laid, (t.1 = x → t.2 ∈ (goW laid m i st).2) ∧ (t.2 = x → t.1 ∈ (goW laid m i st).2)
  | 0, i, st, h, hm, hi, hc => by
    have := h.small n0
    omega
  | m + 1, i, st, h, hm, hi, hc => by
    unfold goW
    split
    · rename_i c
      have hci : st.2[i]! ∈ st.2 := by rw [getElem!_pos st.2 i c]; exact List.getElem_mem _
      obtain ⟨a1, ⟨r, a2⟩, a3⟩ := h.pass hrg (pre := laid) (fun _ h => h) hci
      refine WI.go n0 hrg a1 (by omega) (by rw [a2, List.length_append]; omega) fun j hj t ht => ?_
      have ej : (passW laid st.2[i]! st).2[j]! = st.2[j]! := by
        rw [getElem!_pos _ j (by rw [a2, List.length_append]; omega), getElem!_pos _ j (by omega)]
        simp only [a2]
        exact List.getElem_append_left (by omega)
      rw [ej]
      by_cases e : j = i
      · subst e
        exact ⟨fun z => (a3 t ht).1 z, fun z => (a3 t ht).2 z⟩
      · have := hc j (by omega) t ht
        rw [a2]
        exact ⟨fun z => List.mem_append_left _ (this.1 z), fun z => List.mem_append_left _ (this.2 z)⟩
    · rename_i c
      refine ⟨h, fun x hx t ht => ?_⟩
      obtain ⟨j, hj, rfl⟩ := List.getElem_of_mem hx
      have := hc j (by omega) t ht
      rw [getElem!_pos st.2 j hj] at this
      exact this
theorem wayF_some {laid : List (Int × Int)} {s g n : Int} {wy : List Int} (h0 : 0 ≤ s ∧ s < n) (n9 : n ≤ 99) (hrg : ∀ t ∈ laid, (0 ≤ t.1 ∧ t.1 < n) ∧ (0 ≤ t.2 ∧ t.2 < n)) (h : wayF laid s g = some wy) : Pt laid s g wy := by
  obtain ⟨h1, h2⟩ := WI.go (n := n) (by omega) hrg (m := 100) (i := 0) (WI.start (laid := laid) h0) (by omega) (by omega) (fun j hj => by omega)
  exact (h1.pt _ _ (lookup_mem h)).1
theorem wayF_none {laid : List (Int × Int)} {s g n : Int} (h0 : 0 ≤ s ∧ s < n) (n9 : n ≤ 99) (hrg : ∀ t ∈ laid, (0 ≤ t.1 ∧ t.1 < n) ∧ (0 ≤ t.2 ∧ t.2 < n)) : wayF laid s g = none ↔ ¬ Reach ⟨n, laid⟩ s g := by
  obtain ⟨h1, h2⟩ := WI.go (n := n) (by omega) hrg (m := 100) (i := 0) (WI.start (laid := laid) h0) (by omega) (by omega) (fun j hj => by omega)
  unfold wayF
  rw [lookup_none, h1.ks]
  have key : ∀ x, Reach ⟨n, laid⟩ s x → x ∈ (goW laid 100 0 (startW s)).2 := by
    intro x hx
    induction hx with
    | refl => exact h1.hd
    | step _ t ih =>
      rcases t with t | t
      · exact (h2 _ ih _ t).1 rfl
      · exact (h2 _ ih _ t).2 rfl
  exact ⟨fun a b => a (key g b), fun a b => a (h1.re g b)⟩
abbrev CSt := List (Int × Int) × List (List Int)
def closeS (st : CSt) (t : Int × Int) : CSt := match wayF st.1 t.2 t.1 with
  | none => (st.1 ++ [t], st.2)
  | some wy => (st.1, st.2 ++ [t.1 :: wy.dropLast])
theorem Pt.len {laid : List (Int × Int)} {s v : Int} {l : List Int} (h : Pt laid s v l) : l.Nodup := by
  induction h with
  | nil => simp
  | snoc _ _ hn ih => rw [List.nodup_append]; exact ⟨ih, by simp, fun a ha b hb e => by simp at hb; subst hb; subst e; exact hn ha⟩
theorem Pt.rg {laid : List (Int × Int)} {s v n : Int} {l : List Int} (h : Pt laid s v l) (hs : 0 ≤ s ∧ s < n) (hrg : ∀ t ∈ laid, (0 ≤ t.1 ∧ t.1 < n) ∧ (0 ≤ t.2 ∧ t.2 < n)) : ∀ x ∈ l, 0 ≤ x ∧ x < n := by
  induction h with
  | nil => intro x hx; simp at hx; subst hx; exact hs
  | snoc _ ht _ ih =>
    intro x hx
    rcases List.mem_append.mp hx with hx | hx
    · exact ih x hx
    · simp at hx; subst hx
      rcases ht with ht | ht
      · exact (hrg _ ht).2
      · exact (hrg _ ht).1
theorem Pt.small {laid : List (Int × Int)} {s v n : Int} {l : List Int} (h : Pt laid s v l) (hs : 0 ≤ s ∧ s < n) (hrg : ∀ t ∈ laid, (0 ≤ t.1 ∧ t.1 < n) ∧ (0 ≤ t.2 ∧ t.2 < n)) : (l.length : Int) ≤ n := by
  have h1 := nodup_le (m := irng 0 n) h.len fun x hx => mem_ints.mpr (h.rg hs hrg x hx)
  rw [ints_len] at h1
  omega
end Lib
end G7

namespace G7
namespace Lib
open PySem
open Classical
abbrev sw (z : Int × Int) : Int × Int := (z.2, z.1)
noncomputable def ind (ls : Ar) (z : Int × Int) : Int := if z ∈ ls then 1 else 0
def sumI (l : List Int) : Int := l.foldr (· + ·) 0
theorem sumI_app (a b : List Int) : sumI (a ++ b) = sumI a + sumI b := by
  induction a with
  | nil => simp [sumI]
  | cons x a ih => simp only [List.cons_append, sumI, List.foldr_cons] at ih ⊢; omega
theorem sumI_cons (x : Int) (a : List Int) : sumI (x :: a) = x + sumI a := rfl
theorem sumI_sub {α : Type} (f g : α → Int) (l : List α) : sumI (l.map fun z => f z - g z) = sumI (l.map f) - sumI (l.map g) := by
  induction l with
  | nil => rfl
  | cons x l ih => simp only [List.map_cons, sumI_cons, ih]; omega
theorem sumI_zero {l : List Int} (h : ∀ x ∈ l, x = 0) : sumI l = 0 := by
  induction l with
  | nil => rfl
  | cons x l ih => rw [sumI_cons, h x List.mem_cons_self, ih fun y hy => h y (List.mem_cons_of_mem _ hy)]; rfl
theorem nexts_fst (r : List Int) : (nexts r).map Prod.fst = r := by
  unfold nexts
  rw [List.map_fst_zip]
  cases r <;> simp
theorem nexts_snd (r : List Int) : (nexts r).map Prod.snd = r.tail ++ r.take 1 := by
  unfold nexts
  rw [List.map_snd_zip]
  cases r <;> simp
/-- round a ring all is as it was -/
theorem round_sum (c : Int → Int) (r : List Int) : sumI ((nexts r).map fun z => c z.2 - c z.1) = 0 := by
  rw [sumI_sub (fun z : Int × Int => c z.2) (fun z => c z.1)]
  have e1 : (nexts r).map (fun z : Int × Int => c z.2) = (r.tail ++ r.take 1).map c := by rw [← nexts_snd, List.map_map]; rfl
  have e2 : (nexts r).map (fun z : Int × Int => c z.1) = r.map c := by
    conv => rhs; rw [← nexts_fst r]
    rw [List.map_map]; rfl
  rw [e1, e2]
  cases r with
  | nil => rfl
  | cons x r =>
    simp only [List.tail_cons, List.take_succ_cons, List.take_zero, List.map_append, List.map_cons, List.map_nil, sumI_app, sumI_cons]
    simp only [sumI, List.foldr_nil]
    omega
/-- of a tied pair just one way about is an arrow -/
theorem one_way {w : Web} {p : List Int} (h : isP w p) (a : Acyc (arw w p)) {z : Int × Int} (t : T w z.1 z.2) : (z ∈ arw w p ∧ sw z ∉ arw w p) ∨ (z ∉ arw w p ∧ sw z ∈ arw w p) := by
  have no : ¬ (z ∈ arw w p ∧ sw z ∈ arw w p) := fun ⟨h1, h2⟩ => by
    obtain ⟨f, hf⟩ := a
    have := hf _ h1
    have := hf _ h2
    simp only at *
    omega
  rcases t with t | t
  · rcases arw_tie h t with c | c
    · exact .inl ⟨c, fun d => no ⟨c, d⟩⟩
    · exact .inr ⟨fun d => no ⟨d, c⟩, c⟩
  · rcases arw_tie h t with c | c
    · exact .inr ⟨fun d => no ⟨d, c⟩, c⟩
    · exact .inl ⟨c, fun d => no ⟨c, d⟩⟩
/-- numbers that fit two pointings -/
def Fit (w : Web) (p q : List Int) (c : Int → Int) : Prop := ∀ t ∈ arw w p, c t.1 - c t.2 = 1 - ind (arw w q) t
theorem fit_step {w : Web} {p q : List Int} (hp : isP w p) (hq : isP w q) (ap : Acyc (arw w p)) (aq : Acyc (arw w q)) {c : Int → Int} (f : Fit w p q c) {z : Int × Int} (t : T w z.1 z.2) : c z.2 - c z.1 = ind (arw w q) z - ind (arw w p) z := by
  unfold ind
  rcases one_way hp ap t with ⟨h1, h2⟩ | ⟨h1, h2⟩
  · have := f _ h1
    unfold ind at this
    rw [if_pos h1]; omega
  · have := f _ h2
    unfold ind at this
    simp only [sw] at this
    rw [if_neg h1]
    rcases one_way hq aq t with ⟨g1, g2⟩ | ⟨g1, g2⟩
    · rw [if_neg g2] at this; rw [if_pos g1]; omega
    · rw [if_pos g2] at this; rw [if_neg g1]; omega
theorem fit_of {w : Web} {p q : List Int} (hp : isP w p) {c : Int → Int} (h : ∀ z, T w z.1 z.2 → c z.2 - c z.1 = ind (arw w q) z - ind (arw w p) z) : Fit w p q c := fun t ht => by
  have tt : T w t.1 t.2 := by
    obtain ⟨k, hk, rfl⟩ := (mem_arw hp).mp ht
    have hm : w.ts[k]! ∈ w.ts := by rw [getElem!_pos w.ts k (by rw [← hp.1]; exact hk)]; exact List.getElem_mem _
    unfold arr
    split
    · exact .inl hm
    · exact .inr hm
  have := h t tt
  unfold ind at this ⊢
  rw [if_pos ht] at this
  omega
/-- a ring of a web -/
structure Rg' (w : Web) (r : List Int) : Prop where
  nd : r.Nodup
  l3 : 3 ≤ r.length
  td : ∀ z ∈ nexts r, T w z.1 z.2
abbrev adj (E : List (Int × Int)) (z : Int × Int) : Prop := z ∈ E ∨ sw z ∈ E
theorem zip_tail {u a : Int} : ∀ {l : List Int}, l.getLast? = some u → l.zip (l.tail ++ [a]) = l.zip l.tail ++ [(u, a)]
  | [], h => by simp at h
  | [x], h => by simp at h; subst h; rfl
  | x :: y :: l, h => by
    have ih := zip_tail (u := u) (a := a) (l := y :: l) (by simpa using h)
    simp only [List.tail_cons, List.cons_append, List.zip_cons_cons] at ih ⊢
    rw [ih]
theorem zip_over {v : Int} : ∀ {l : List Int}, l ≠ [] → (l ++ [v]).zip (l ++ [v]).tail = l.zip (l.tail ++ [v])
  | [], h => absurd rfl h
  | [x], _ => rfl
  | x :: y :: l, _ => by
    have ih := zip_over (v := v) (l := y :: l) (by simp)
    simp only [List.tail_cons, List.cons_append, List.zip_cons_cons] at ih ⊢
    rw [ih]
theorem Pt.facts {laid : List (Int × Int)} {s v : Int} {l : List Int} (h : Pt laid s v l) : l ≠ [] ∧ (∃ r, l = s :: r) ∧ l.getLast? = some v ∧ ∀ z ∈ l.zip l.tail, adj laid z := by
  induction h with
  | nil => exact ⟨by simp, ⟨[], rfl⟩, rfl, by simp⟩
  | @snoc u v l _ ht hn ih =>
    obtain ⟨i1, ⟨r, i2⟩, i3, i4⟩ := ih
    refine ⟨by simp, ⟨r ++ [v], by rw [i2]; rfl⟩, by simp, fun z hz => ?_⟩
    rw [zip_over i1, zip_tail i3] at hz
    rcases List.mem_append.mp hz with hz | hz
    · exact i4 z hz
    · simp at hz; subst hz; exact ht
theorem ring_nexts {laid : List (Int × Int)} {a b u : Int} {l : List Int} (h : Pt laid b u l) : nexts (a :: l) = (a, b) :: (l.zip l.tail ++ [(u, a)]) := by
  obtain ⟨_, ⟨r, i2⟩, i3, _⟩ := h.facts
  rw [← zip_tail i3]
  unfold nexts
  subst i2
  simp
theorem Pt.inv {laid : List (Int × Int)} {s v : Int} {l : List Int} (h : Pt laid s v l) (ne : s ≠ v) : ∃ u m, l = m ++ [v] ∧ Pt laid s u m ∧ adj laid (u, v) ∧ v ∉ m := by
  cases h with
  | nil => exact absurd rfl ne
  | snoc a b c => exact ⟨_, _, rfl, a, b, c⟩
structure CI (n : Int) (E : List (Int × Int)) (st : CSt) : Prop where
  sub : ∀ t ∈ st.1, t ∈ E
  con : ∀ t ∈ E, Reach ⟨n, st.1⟩ t.1 t.2
  rgs : ∀ r ∈ st.2, r.Nodup ∧ 3 ≤ r.length ∧ ∀ z ∈ nexts r, adj E z
  pot : ∀ g : Int × Int → Int, (∀ z, adj E z → g (sw z) = - g z) → (∀ r ∈ st.2, sumI ((nexts r).map g) = 0) → ∃ c : Int → Int, ∀ t ∈ E, c t.2 - c t.1 = g t
theorem CI.step {n : Int} {E : List (Int × Int)} {st : CSt} (h : CI n E st) (n9 : n ≤ 99) {t : Int × Int} (hrg : ∀ u ∈ E, (0 ≤ u.1 ∧ u.1 < n) ∧ (0 ≤ u.2 ∧ u.2 < n)) (ht : (0 ≤ t.1 ∧ t.1 < n) ∧ (0 ≤ t.2 ∧ t.2 < n)) (ne : t.1 ≠ t.2) (nt : ¬ adj E t) : CI n (E ++ [t]) (closeS st t) := by
  have hsub := h.sub
  have hrl : ∀ u ∈ st.1, (0 ≤ u.1 ∧ u.1 < n) ∧ (0 ≤ u.2 ∧ u.2 < n) := fun u hu => hrg u (hsub u hu)
  have up : ∀ {z}, adj E z → adj (E ++ [t]) z := fun h => h.imp (List.mem_append_left _) (List.mem_append_left _)
  unfold closeS
  cases e : wayF st.1 t.2 t.1 with
  | none =>
    have hnr := (wayF_none (n := n) ht.2 n9 hrl).mp e
    refine ⟨fun u hu => ?_, fun u hu => ?_, fun r hr => ?_, fun g hg hs => ?_⟩
    · rcases List.mem_append.mp hu with hu | hu
      · exact List.mem_append_left _ (hsub u hu)
      · exact List.mem_append_right _ hu
    · rcases List.mem_append.mp hu with hu | hu
      · exact Reach.more (fun v hv => List.mem_append_left _ hv) (h.con u hu)
      · simp at hu; subst hu
        exact .step .refl (.inl (by simp))
    · obtain ⟨a, b, c⟩ := h.rgs r hr
      exact ⟨a, b, fun z hz => up (c z hz)⟩
    · obtain ⟨c, hc⟩ := h.pot g (fun z hz => hg z (up hz)) hs
      refine ⟨fun x => if Reach ⟨n, st.1⟩ t.2 x then c x + (g t - (c t.2 - c t.1)) else c x, fun u hu => ?_⟩
      simp only
      rcases List.mem_append.mp hu with hu | hu
      · have hcu := hc u hu
        by_cases r1 : Reach ⟨n, st.1⟩ t.2 u.1
        · rw [if_pos r1, if_pos (r1.trans (h.con u hu))]; omega
        · rw [if_neg r1, if_neg fun r2 => r1 (r2.trans (h.con u hu).symm)]; exact hcu
      · simp at hu; subst hu
        rw [if_pos .refl, if_neg hnr]; omega
  | some wy =>
    have hp := wayF_some (n := n) ht.2 n9 hrl e
    · obtain ⟨u, l, rfl, hp, ha, hn⟩ := hp.inv (fun c => ne c.symm)
      simp only
      rw [List.dropLast_concat]
      have hnx := ring_nexts (a := t.1) hp
      obtain ⟨i1, ⟨r, i2⟩, i3, i4⟩ := hp.facts
      have adjE : ∀ {z}, adj st.1 z → adj E z := fun h => h.imp (hsub _) (hsub _)
      have l3 : 3 ≤ (t.1 :: l).length := by
        cases r with
        | nil =>
          exfalso
          subst i2
          simp at i3
          subst i3
          exact nt (adjE (.symm (by simpa using ha)))
        | cons y r => rw [i2]; simp
      have hadj : ∀ z ∈ l.zip l.tail ++ [(u, t.1)], adj E z := fun z hz => by
        rcases List.mem_append.mp hz with hz | hz
        · exact adjE (i4 z hz)
        · simp at hz; subst hz; exact adjE ha
      refine ⟨fun v hv => List.mem_append_left _ (hsub v hv), fun v hv => ?_, fun r2 hr => ?_, fun g hg hs => ?_⟩
      · rcases List.mem_append.mp hv with hv | hv
        · exact h.con v hv
        · simp at hv; subst hv
          have : ¬ wayF st.1 v.2 v.1 = none := by rw [e]; simp
          rw [wayF_none (n := n) ht.2 n9 hrl, Classical.not_not] at this
          exact this.symm
      · rcases List.mem_append.mp hr with hr | hr
        · obtain ⟨a, b, c⟩ := h.rgs r2 hr
          exact ⟨a, b, fun z hz => up (c z hz)⟩
        · simp at hr; subst hr
          refine ⟨List.nodup_cons.mpr ⟨hn, hp.len⟩, l3, fun z hz => ?_⟩
          rw [hnx] at hz
          rcases List.mem_cons.mp hz with rfl | hz
          · exact .inl (List.mem_append_right _ (by simp))
          · exact up (hadj z hz)
      · obtain ⟨c, hc⟩ := h.pot g (fun z hz => hg z (up hz)) (fun r hr => hs r (List.mem_append_left _ hr))
        refine ⟨c, fun v hv => ?_⟩
        rcases List.mem_append.mp hv with hv | hv
        · exact hc v hv
        · simp at hv; subst hv
          have s1 := hs (v.1 :: l) (by simp)
          have s2 := round_sum c (v.1 :: l)
          have s3 := sumI_sub g (fun z : Int × Int => c z.2 - c z.1) (nexts (v.1 :: l))
          rw [s1, s2, hnx, List.map_cons, sumI_cons, sumI_zero (l := (l.zip l.tail ++ [(u, v.1)]).map fun z => g z - (c z.2 - c z.1)) (fun x hx => ?_)] at s3
          · simp only at s3
            have e : g (v.1, v.2) = g v := rfl
            omega
          · obtain ⟨z, hz, rfl⟩ := List.mem_map.mp hx
            have goal : g z - (c z.2 - c z.1) = 0 := by
              rcases hadj z hz with z1 | z1
              · have := hc z z1; omega
              · have h1 : c z.1 - c z.2 = g (sw z) := hc (sw z) z1
                have h2 := hg z (up (.inr z1))
                omega
            exact goal
theorem Rg'.small {w : Web} (o : w.ok) {r : List Int} (h : Rg' w r) : (r.length : Int) ≤ w.n := by
  have n1 := o.n1
  have hm : ∀ x ∈ r, 0 ≤ x ∧ x < w.n := fun x hx => by
    have : x ∈ (nexts r).map Prod.fst := by rw [nexts_fst]; exact hx
    obtain ⟨z, hz, rfl⟩ := List.mem_map.mp this
    rcases h.td z hz with t | t
    · have := o.rg _ t; simp only at this; omega
    · have := o.rg _ t; simp only at this; omega
  have h1 := nodup_le (m := irng 0 w.n) h.nd fun x hx => mem_ints.mpr (hm x hx)
  rw [ints_len] at h1
  omega
end Lib
end G7

namespace G7
namespace Lib
open PySem
theorem spr_mem {w : Web} {p : List Int} {v : Int} : v ∈ sprF w p ↔ (0 ≤ v ∧ v < w.n) ∧ ∀ t ∈ arw w p, t.2 ≠ v := by
  unfold sprF
  simp only [List.mem_filter, mem_ints, Bool.not_eq_true', decide_eq_false_iff_not, List.mem_map, not_exists, not_and]
theorem spr_acyc {w : Web} (o : w.ok) {p : List Int} (hp : isP w p) (ap : Acyc (arw w p)) {v : Int} (hv : v ∈ sprF w p) : Acyc (arw w (abtF w p v)) :=
  abt_source o hp ap fun c => by
    obtain ⟨t, ht, e⟩ := List.mem_map.mp c
    exact (spr_mem.mp hv).2 t ht e
/-- the numbers that fit, one place being turned -/
theorem fit_turn {w : Web} {p q : List Int} (hp : isP w p) (hq : isP w q) (ap : Acyc (arw w p)) (aq : Acyc (arw w q)) {c : Int → Int} (f : Fit w p q c) {v : Int} (hv : v ∈ sprF w p) : Fit w (abtF w p v) q fun x => if x = v then c x - 1 else c x := fun t ht => by
  have hs := (spr_mem.mp hv).2
  rcases abt_mem hp ht with ⟨e, hm⟩ | ⟨e, hm⟩
  · unfold tch at e
    simp only [decide_eq_false_iff_not, not_or] at e
    simp only
    rw [if_neg fun z => e.1 z.symm, if_neg fun z => e.2 z.symm]
    exact f t hm
  · unfold tch at e
    simp only [decide_eq_true_eq] at e
    have h1 := hs _ hm
    have h2 := f _ hm
    simp only at h1 h2
    have hne : t.1 ≠ t.2 := fun z => by
      obtain ⟨g, hg⟩ := ap
      have := hg _ hm
      simp only [z] at this; omega
    have tt : T w t.1 t.2 := by
      obtain ⟨k, hk, e2⟩ := (mem_arw hp).mp hm
      have hm2 : w.ts[k]! ∈ w.ts := by rw [getElem!_pos w.ts k (by rw [← hp.1]; exact hk)]; exact List.getElem_mem _
      unfold arr at e2
      split at e2
      · rw [← e2] at hm2; exact .inr hm2
      · have : w.ts[k]! = (t.1, t.2) := by
          have a := congrArg Prod.fst e2
          have b := congrArg Prod.snd e2
          simp only at a b
          exact Prod.ext b.symm a.symm
        rw [this] at hm2; exact .inl hm2
    simp only
    rcases e with e | e
    · exact absurd e.symm h1
    · rw [if_neg h1, if_pos e.symm]
      have hsum : ind (arw w q) t + ind (arw w q) (t.2, t.1) = 1 := by
        unfold ind
        rcases one_way hq aq tt with ⟨a, b⟩ | ⟨a, b⟩
        · rw [if_pos a, if_neg b]; rfl
        · rw [if_neg a, if_pos b]; rfl
      omega
def turnsGo (w : Web) : List Int → List Int → Option (List Int)
  | p, [] => some p
  | p, v :: vs => if v ∈ sprF w p then turnsGo w (abtF w p v) vs else none
theorem Fit.congr {w : Web} (o : w.ok) {p q : List Int} {c d : Int → Int} (f : Fit w p q c) (h : ∀ x, 0 ≤ x → x < w.n → c x = d x) : Fit w p q d := fun t ht => by
  have := arw_rg o t ht
  rw [← h t.1 this.1.1 this.1.2, ← h t.2 this.2.1 this.2.2]
  exact f t ht
theorem same_arw {w : Web} {p q : List Int} (hp : isP w p) (hq : isP w q) (aq : Acyc (arw w q)) (h : ∀ t ∈ arw w p, t ∈ arw w q) : p = q := by
  refine List.ext_getElem (by rw [hp.1, hq.1]) fun k h1 h2 => ?_
  have a : p[k] = 0 ∨ p[k] = 1 := hp.2 _ (List.getElem_mem h1)
  have b : q[k] = 0 ∨ q[k] = 1 := hq.2 _ (List.getElem_mem h2)
  have m1 := h _ ((mem_arw hp).mpr ⟨k, h1, rfl⟩)
  have m2 : arr w q k ∈ arw w q := (mem_arw hq).mpr ⟨k, h2, rfl⟩
  obtain ⟨f, hf⟩ := aq
  have g1 := hf _ m1
  have g2 := hf _ m2
  unfold arr at g1 g2
  rw [getElem!_pos p k h1] at g1
  rw [getElem!_pos q k h2] at g2
  rcases a with a | a <;> rcases b with b | b <;> rw [a] at g1 ⊢ <;> rw [b] at g2 ⊢ <;> simp at g1 g2 <;> omega
theorem sumI_pos {l : List Int} (h : ∀ x ∈ l, 0 ≤ x) : 0 ≤ sumI l ∧ ∀ x ∈ l, x ≤ sumI l := by
  induction l with
  | nil => simp [sumI]
  | cons a l ih =>
    obtain ⟨i1, i2⟩ := ih fun x hx => h x (List.mem_cons_of_mem _ hx)
    have := h a List.mem_cons_self
    rw [sumI_cons]
    refine ⟨by omega, fun x hx => ?_⟩
    rcases List.mem_cons.mp hx with rfl | hx
    · omega
    · have := i2 x hx; omega
end Lib
end G7

namespace G7
namespace Lib
open PySem
structure PIv (w : Web) (x : Int) (c : Int → Int) (m : List (Int × Int)) (line : List Int) : Prop where
  ks : m.map Prod.fst = line
  nd : line.Nodup
  hd : x ∈ line
  re : ∀ v ∈ line, Reach w x v
  vl : ∀ v k, (v, k) ∈ m → k = c v - c x
theorem PIv.small {w : Web} (o : w.ok) {x : Int} (hx : 0 ≤ x ∧ x < w.n) {c : Int → Int} {m : List (Int × Int)} {line : List Int} (h : PIv w x c m line) : (line.length : Int) ≤ w.n := by
  have n1 := o.n1
  have h1 := nodup_le (m := irng 0 w.n) h.nd fun v hv => mem_ints.mpr ((h.re v hv).rg o hx)
  rw [ints_len] at h1
  omega
theorem PIv.add {w : Web} {x : Int} {c : Int → Int} {m : List (Int × Int)} {line : List Int} (h : PIv w x c m line) {u v k : Int} (hu : u ∈ line) (t : T w u v) (hn : m.lookup v = none) (hk : k = c v - c x) : PIv w x c (m ++ [(v, k)]) (line ++ [v]) := by
  rw [lookup_none, h.ks] at hn
  refine ⟨by simp [h.ks], ?_, by simp [h.hd], fun z hz => ?_, fun z k2 hz => ?_⟩
  · rw [List.nodup_append]
    exact ⟨h.nd, by simp, fun a ha b hb e => by simp at hb; subst hb; subst e; exact hn ha⟩
  · rcases List.mem_append.mp hz with hz | hz
    · exact h.re z hz
    · simp at hz; subst hz; exact .step (h.re u hu) t
  · rcases List.mem_append.mp hz with hz | hz
    · exact h.vl z k2 hz
    · simp at hz; obtain ⟨rfl, rfl⟩ := hz; exact hk
theorem arw_T {w : Web} {p : List Int} (hp : isP w p) {t : Int × Int} (ht : t ∈ arw w p) : T w t.1 t.2 := by
  obtain ⟨k, hk, rfl⟩ := (mem_arw hp).mp ht
  have hm : w.ts[k]! ∈ w.ts := by rw [getElem!_pos w.ts k (by rw [← hp.1]; exact hk)]; exact List.getElem_mem _
  unfold arr
  split
  · exact .inl hm
  · exact .inr hm
end Lib
end G7

namespace G7
namespace Lib
open PySem
structure Norm (w : Web) (p q l : List Int) : Prop where
  len : (l.length : Int) = w.n
  fit : Fit w p q (gI l)
  nn : ∀ x ∈ l, 0 ≤ x
  z : ∀ x, 0 ≤ x → x < w.n → ∃ y, Reach w x y ∧ gI l y = 0
theorem fit_adj {w : Web} {p q : List Int} (hp : isP w p) (hq : isP w q) (ap : Acyc (arw w p)) (aq : Acyc (arw w q)) {c : Int → Int} (f : Fit w p q c) {u v : Int} (t : T w u v) : c v ≤ c u + 1 ∧ c u ≤ c v + 1 := by
  have := fit_step hp hq ap aq f (z := (u, v)) t
  unfold ind at this
  simp only at this
  split at this <;> split at this <;> omega
theorem fit_mid {w : Web} {p q : List Int} (hp : isP w p) (hq : isP w q) (ap : Acyc (arw w p)) (aq : Acyc (arw w q)) {c : Int → Int} (f : Fit w p q c) {y x : Int} (h : Reach w y x) (hy : c y = 0) : ∀ m : Int, 0 ≤ m → m ≤ c x → ∃ v, Reach w y v ∧ c v = m := by
  induction h with
  | refl => intro m m0 m1; exact ⟨y, .refl, by omega⟩
  | @step u v hr t ih =>
    intro m m0 m1
    have := fit_adj hp hq ap aq f t
    by_cases e : m ≤ c u
    · exact ih m m0 e
    · exact ⟨v, .step hr t, by omega⟩
theorem Norm.small {w : Web} (o : w.ok) {p q l : List Int} (hp : isP w p) (hq : isP w q) (ap : Acyc (arw w p)) (aq : Acyc (arw w q)) (h : Norm w p q l) : ∀ x ∈ l, x < w.n := fun k hk => by
  have n1 := o.n1
  obtain ⟨i, hi, e⟩ := List.getElem_of_mem hk
  have hl := h.len
  have hg : gI l i = k := by unfold gI; rw [Int.toNat_natCast, getElem!_pos l i hi]; exact e
  obtain ⟨y, hy, hy0⟩ := h.z i (by omega) (by omega)
  have hyr := hy.rg o (by omega)
  have mid := fit_mid hp hq ap aq h.fit hy.symm hy0
  have k0 := h.nn k hk
  let ch : Int → Int := fun m => if hm : 0 ≤ m ∧ m ≤ gI l i then Classical.choose (mid m hm.1 hm.2) else 0
  have hch : ∀ m, 0 ≤ m → m ≤ k → Reach w y (ch m) ∧ gI l (ch m) = m := fun m m0 m1 => by
    have hm : 0 ≤ m ∧ m ≤ gI l i := ⟨m0, by omega⟩
    have : ch m = Classical.choose (mid m hm.1 hm.2) := by show (if hm : _ then _ else _) = _; rw [dif_pos hm]
    rw [this]
    exact Classical.choose_spec (mid m hm.1 hm.2)
  have hnd : ((irng 0 (k + 1)).map ch).Nodup := by
    rw [List.nodup_iff_pairwise_ne, List.pairwise_map]
    have : (irng 0 (k + 1)).Pairwise (· < ·) := ints_sorted _ _
    refine this.imp_of_mem fun {a b} ha hb hab e => ?_
    have ha := mem_ints.mp ha
    have hb := mem_ints.mp hb
    have e1 := (hch a ha.1 (by omega)).2
    have e2 := (hch b hb.1 (by omega)).2
    rw [e, e2] at e1
    omega
  have := nodup_le (m := irng 0 w.n) hnd fun z hz => by
    obtain ⟨m, hm, rfl⟩ := List.mem_map.mp hz
    have hm := mem_ints.mp hm
    exact mem_ints.mpr ((hch m hm.1 (by omega)).1.rg o hyr)
  rw [List.length_map, ints_len, ints_len] at this
  omega
theorem sumI_le {l : List Int} {b : Int} (h : ∀ x ∈ l, x ≤ b) : sumI l ≤ b * l.length := by
  induction l with
  | nil => simp [sumI]
  | cons a l ih =>
    have h1 := ih fun x hx => h x (List.mem_cons_of_mem _ hx)
    have h2 := h a List.mem_cons_self
    rw [sumI_cons, List.length_cons]
    have : b * ((l.length + 1 : Nat) : Int) = b * l.length + b := by rw [Int.natCast_add, Int.mul_add]; omega
    omega
theorem Norm.sum {w : Web} (o : w.ok) {p q l : List Int} (hp : isP w p) (hq : isP w q) (ap : Acyc (arw w p)) (aq : Acyc (arw w q)) (h : Norm w p q l) : sumI l ≤ 100 := by
  have n1 := o.n1
  have n9 := o.n9
  have h1 := sumI_le (l := l) (b := 9) fun x hx => by have := h.small o hp hq ap aq x hx; omega
  have := h.len
  omega
theorem Norm.one {w : Web} (o : w.ok) {p q l l2 : List Int} (hp : isP w p) (hq : isP w q) (ap : Acyc (arw w p)) (aq : Acyc (arw w q)) (h : Norm w p q l) (h2 : Norm w p q l2) : l = l2 := by
  have e1 := h.len
  have e2 := h2.len
  have dif : ∀ {x y}, Reach w x y → gI l x - gI l2 x = gI l y - gI l2 y := fun r => by
    induction r with
    | refl => rfl
    | step _ t ih =>
      have a := fit_step hp hq ap aq h.fit (z := (_, _)) t
      have b := fit_step hp hq ap aq h2.fit (z := (_, _)) t
      simp only at a b
      omega
  refine List.ext_getElem (by omega) fun i h1 h3 => ?_
  have g1 : gI l i = l[i] := by unfold gI; rw [Int.toNat_natCast, getElem!_pos l i h1]
  have g2 : gI l2 i = l2[i] := by unfold gI; rw [Int.toNat_natCast, getElem!_pos l2 i h3]
  rw [← g1, ← g2]
  obtain ⟨y, hy, hy0⟩ := h.z i (by omega) (by omega)
  obtain ⟨z, hz, hz0⟩ := h2.z i (by omega) (by omega)
  have d1 := dif hy
  have d2 := dif hz
  have ry := hy.rg o (by omega)
  have rz := hz.rg o (by omega)
  have n1 := h2.nn _ (gI_mem (l := l2) ry.1 (by omega))
  have n2 := h.nn _ (gI_mem (l := l) rz.1 (by omega))
  omega
structure OIv (w : Web) (c : Int → Int) (m : List (Int × Int)) : Prop where
  nd : (m.map Prod.fst).Nodup
  rg : ∀ v ∈ m.map Prod.fst, 0 ≤ v ∧ v < w.n
  cl : ∀ v ∈ m.map Prod.fst, ∀ u, Reach w v u → u ∈ m.map Prod.fst
  nn : ∀ v k, (v, k) ∈ m → 0 ≤ k
  df : ∀ v k u j, (v, k) ∈ m → (u, j) ∈ m → Reach w v u → k - j = c v - c u
  zz : ∀ v ∈ m.map Prod.fst, ∃ u, Reach w v u ∧ (u, 0) ∈ m
theorem OIv.add {w : Web} (o : w.ok) {c : Int → Int} {m m2 : List (Int × Int)} (h : OIv w c m) {x n : Int} (hx : 0 ≤ x ∧ x < w.n) (hn : x ∉ m.map Prod.fst) (nd2 : (m2.map Prod.fst).Nodup) (re2 : ∀ v, v ∈ m2.map Prod.fst ↔ Reach w x v) (vl2 : ∀ v k, (v, k) ∈ m2 → k = c v - c x)
    (mn : (∃ v, (v, n) ∈ m2) ∧ ∀ v k, (v, k) ∈ m2 → n ≤ k) : OIv w c (m ++ m2.map fun p => (p.1, p.2 - n)) ∧ (∀ v ∈ m2.map Prod.fst, v ∉ m.map Prod.fst) := by
  have dis : ∀ v ∈ m2.map Prod.fst, v ∉ m.map Prod.fst := fun v hv c => hn (h.cl v c x ((re2 v).mp hv).symm)
  have ek : (m2.map fun p => (p.1, p.2 - n)).map Prod.fst = m2.map Prod.fst := by rw [List.map_map]; rfl
  have mem2 : ∀ {v k}, (v, k) ∈ (m2.map fun p => (p.1, p.2 - n)) → (v, k + n) ∈ m2 ∧ Reach w x v := fun {v k} hk => by
    obtain ⟨q, hq, e⟩ := List.mem_map.mp hk
    simp only [Prod.mk.injEq] at e
    obtain ⟨e1, e2⟩ := e
    have : (v, k + n) = q := Prod.ext e1.symm (by simp only; omega)
    rw [this]
    exact ⟨hq, (re2 v).mp (by rw [← e1]; exact List.mem_map.mpr ⟨q, hq, rfl⟩)⟩
  have key : ∀ {v k}, (v, k) ∈ m → v ∈ m.map Prod.fst := fun h => List.mem_map.mpr ⟨_, h, rfl⟩
  refine ⟨⟨?_, fun v hv => ?_, fun v hv u hu => ?_, fun v k hk => ?_, fun v k u j hk hj hr => ?_, fun v hv => ?_⟩, dis⟩
  · rw [List.map_append, ek, List.nodup_append]
    exact ⟨h.nd, nd2, fun a ha b hb e => by subst e; exact dis a hb ha⟩
  · rw [List.map_append, ek] at hv
    rcases List.mem_append.mp hv with hv | hv
    · exact h.rg v hv
    · exact ((re2 v).mp hv).rg o hx
  · rw [List.map_append, ek] at hv ⊢
    rcases List.mem_append.mp hv with hv | hv
    · exact List.mem_append_left _ (h.cl v hv u hu)
    · exact List.mem_append_right _ ((re2 u).mpr (((re2 v).mp hv).trans hu))
  · rcases List.mem_append.mp hk with hk | hk
    · exact h.nn v k hk
    · have := mn.2 v _ (mem2 hk).1; omega
  · rcases List.mem_append.mp hk with hk | hk <;> rcases List.mem_append.mp hj with hj | hj
    · exact h.df v k u j hk hj hr
    · exact absurd (h.cl v (key hk) u hr) (dis u ((re2 u).mpr (mem2 hj).2))
    · exact absurd (h.cl u (key hj) v hr.symm) (dis v ((re2 v).mpr (mem2 hk).2))
    · have a := vl2 v _ (mem2 hk).1
      have b := vl2 u _ (mem2 hj).1
      omega
  · rw [List.map_append, ek] at hv
    rcases List.mem_append.mp hv with hv | hv
    · obtain ⟨u, h1, h2⟩ := h.zz v hv
      exact ⟨u, h1, List.mem_append_left _ h2⟩
    · obtain ⟨u, hu⟩ := mn.1
      exact ⟨u, ((re2 v).mp hv).symm.trans ((re2 u).mp (List.mem_map.mpr ⟨_, hu, rfl⟩)), List.mem_append_right _ (List.mem_map.mpr ⟨_, hu, by simp⟩)⟩
theorem OIv.norm {w : Web} (o : w.ok) {p q : List Int} {c : Int → Int} (f : Fit w p q c) (hp : isP w p) {m : List (Int × Int)} (h : OIv w c m) (all : ∀ x, 0 ≤ x → x < w.n → x ∈ m.map Prod.fst) : Norm w p q ((irng 0 w.n).map fun x => (m.lookup x).getD 0) := by
  have n1 := o.n1
  have hg : ∀ {x}, 0 ≤ x → x < w.n → (x, gI ((irng 0 w.n).map fun x => (m.lookup x).getD 0) x) ∈ m := fun {x} x0 x1 => by
    rw [gI_map x0 (by rw [ints_len]; omega), gI_irng x0 x1]
    cases e : m.lookup x with
    | none => exact absurd (all x x0 x1) (lookup_none.mp e)
    | some k => exact lookup_mem e
  refine ⟨by rw [List.length_map, ints_len]; omega, fun t ht => ?_, fun y hy => ?_, fun x x0 x1 => ?_⟩
  · have hr := arw_rg o t ht
    have := h.df _ _ _ _ (hg hr.1.1 hr.1.2) (hg hr.2.1 hr.2.2) (.step .refl (arw_T hp ht))
    rw [this]
    exact f t ht
  · obtain ⟨x, hx, rfl⟩ := List.mem_map.mp hy
    have hx := mem_ints.mp hx
    have := hg hx.1 hx.2
    rw [gI_map hx.1 (by rw [ints_len]; omega), gI_irng hx.1 hx.2] at this
    exact h.nn _ _ this
  · obtain ⟨u, h1, h2⟩ := h.zz x (all x x0 x1)
    refine ⟨u, h1, ?_⟩
    have hr := h1.rg o ⟨x0, x1⟩
    have := h.df _ _ _ _ (hg hr.1 hr.2) h2 .refl
    omega
end Lib
end G7

namespace G7
namespace Lib
open PySem
end Lib
end G7

namespace G7
namespace Lib
open PySem
end Lib
end G7

namespace G7
namespace Lib
open PySem
abbrev Kin (w : Web) (p q : List Int) : Prop := ∃ c, Fit w p q c
theorem Kin.refl {w : Web} {p : List Int} : Kin w p p := ⟨fun _ => 0, fun t ht => by unfold ind; rw [if_pos ht]; rfl⟩
theorem Kin.symm {w : Web} {p q : List Int} (hp : isP w p) (hq : isP w q) (ap : Acyc (arw w p)) (aq : Acyc (arw w q)) (h : Kin w p q) : Kin w q p := by
  obtain ⟨c, f⟩ := h
  exact ⟨fun x => - c x, fit_of hq fun z t => by have := fit_step hp hq ap aq f t; omega⟩
theorem Kin.trans {w : Web} {p q r : List Int} (hp : isP w p) (hq : isP w q) (hr : isP w r) (ap : Acyc (arw w p)) (aq : Acyc (arw w q)) (ar : Acyc (arw w r)) (h1 : Kin w p q) (h2 : Kin w q r) : Kin w p r := by
  obtain ⟨c, f⟩ := h1
  obtain ⟨d, g⟩ := h2
  exact ⟨fun x => c x + d x, fit_of hp fun z t => by have a := fit_step hp hq ap aq f t; have b := fit_step hq hr aq ar g t; omega⟩
theorem turnsGo_app {w : Web} : ∀ {a b p q}, turnsGo w p a = some q → turnsGo w p (a ++ b) = turnsGo w q b
  | [], b, p, q, h => by unfold turnsGo at h; cases h; rfl
  | k :: a, b, p, q, h => by
    unfold turnsGo at h
    split at h
    · next c =>
      rw [List.cons_append]
      conv => lhs; unfold turnsGo
      rw [if_pos c]
      exact turnsGo_app h
    · cases h
structure OW (w : Web) (p : List Int) (pre : List Int) (b : List Int) : Prop where
  isP : isP w b
  ac : Acyc (arw w b)
  fit : Fit w b p fun x => if x ∈ pre then -1 else 0
theorem OW.nil {w : Web} {p : List Int} (hp : Lib.isP w p) (ap : Acyc (arw w p)) : OW w p [] p := ⟨hp, ap, fun t ht => by unfold ind; rw [if_pos ht]; rfl⟩
theorem OW.step {w : Web} (o : w.ok) {p b pre : List Int} {x : Int} (h : OW w p pre b) (hp : Lib.isP w p) (ap : Acyc (arw w p)) (hs : x ∈ sprF w b) (hn : x ∉ pre) : OW w p (pre ++ [x]) (abtF w b x) :=
  ⟨abt_isP h.isP, spr_acyc o h.isP h.ac hs, (fit_turn h.isP hp h.ac ap h.fit hs).congr o fun y y0 y1 => by
    by_cases c : y = x
    · subst c; simp [hn]
    · simp [c]⟩
theorem OW.end {w : Web} (o : w.ok) {p b pre : List Int} (h : OW w p pre b) (hp : Lib.isP w p) (ap : Acyc (arw w p)) (all : ∀ x, 0 ≤ x → x < w.n → x ∈ pre) : b = p := same_arw h.isP hp ap fun t ht => by
  have hr := arw_rg o t ht
  have := h.fit t ht
  simp only at this
  rw [if_pos (all _ hr.1.1 hr.1.2), if_pos (all _ hr.2.1 hr.2.2)] at this
  unfold ind at this
  split at this
  · assumption
  · omega
end Lib
end G7

set_option maxRecDepth 100000
namespace G7
open PySem PySem.Spec PyProof.Rows L2
end G7

namespace G7
namespace Lib
open PySem
abbrev tk (p : List Int) : List (Int ⊕ Str) := p.map .inl
def bitsL : Nat → List (List Int)
  | 0 => [[]]
  | n + 1 => (bitsL n).map (0 :: ·) ++ (bitsL n).map (1 :: ·)
theorem bits_len : ∀ n, (bitsL n).length = 2 ^ n
  | 0 => rfl
  | n + 1 => by rw [bitsL, List.length_append, List.length_map, List.length_map, bits_len n]; omega
theorem mem_bits : ∀ {p : List Int}, (∀ x ∈ p, x = 0 ∨ x = 1) → p ∈ bitsL p.length
  | [], _ => by simp [bitsL]
  | x :: p, h => by
    have ih := mem_bits (p := p) fun y hy => h y (List.mem_cons_of_mem _ hy)
    rw [List.length_cons, bitsL, List.mem_append, List.mem_map, List.mem_map]
    rcases h x List.mem_cons_self with rfl | rfl
    · exact .inl ⟨p, ih, rfl⟩
    · exact .inr ⟨p, ih, rfl⟩
theorem nodup_leG {α : Type} [DecidableEq α] {l m : List α} (h : l.Nodup) (s : ∀ x ∈ l, x ∈ m) : l.length ≤ m.length := by
  induction l generalizing m with
  | nil => simp
  | cons x l ih =>
    have h' := List.nodup_cons.mp h
    have hx : x ∈ m := s x (by simp)
    have := ih (m := m.erase x) h'.2 fun y hy => by
      have hne : y ≠ x := fun e => h'.1 (by rw [← e]; exact hy)
      exact (List.mem_erase_of_ne hne).mpr (s y (by simp [hy]))
    rw [List.length_erase_of_mem hx] at this
    have : 0 < m.length := List.length_pos_of_mem hx
    simp; omega
theorem falls_few {w : Web} {k : Nat} (hw : w.ts.length ≤ k) {L : List (List Int)} (nd : L.Nodup) (h : ∀ p ∈ L, isP w p) : L.length ≤ 2 ^ k := by
  have h1 : L.length ≤ (bitsL w.ts.length).length := by
    refine nodup_leG nd fun p hp => ?_
    rw [← (h p hp).1]
    exact mem_bits (h p hp).2
  rw [bits_len] at h1
  exact Nat.le_trans h1 (Nat.pow_le_pow_right (by omega) hw)
theorem Fit.symm {w : Web} {p q : List Int} {c : Int → Int} (hp : isP w p) (hq : isP w q) (ap : Acyc (arw w p)) (aq : Acyc (arw w q)) (f : Fit w p q c) : Fit w q p fun x => - c x :=
  fit_of hq fun z t => by have := fit_step hp hq ap aq f t; omega
theorem Fit.add {w : Web} {p q r : List Int} {c d : Int → Int} (hp : isP w p) (hq : isP w q) (hr : isP w r) (ap : Acyc (arw w p)) (aq : Acyc (arw w q)) (ar : Acyc (arw w r)) (f : Fit w p q c) (g : Fit w q r d) : Fit w p r fun x => c x + d x :=
  fit_of hp fun z t => by have a := fit_step hp hq ap aq f t; have b := fit_step hq hr aq ar g t; omega
theorem go_fit {w : Web} (o : w.ok) : ∀ {row p q : List Int}, isP w p → Acyc (arw w p) → turnsGo w p row = some q → isP w q ∧ Acyc (arw w q) ∧ Fit w p q (fun v => (row.count v : Int)) ∧ ∀ v ∈ row, 0 ≤ v ∧ v < w.n
  | [], p, q, hp, ap, h => by
    unfold turnsGo at h
    cases h
    exact ⟨hp, ap, fun t ht => by unfold ind; rw [if_pos ht]; simp, by simp⟩
  | v :: vs, p, q, hp, ap, h => by
    unfold turnsGo at h
    split at h
    · next c =>
      have hp2 := abt_isP (q := v) hp
      have ap2 := spr_acyc o hp ap c
      obtain ⟨i1, i2, i3, i4⟩ := go_fit o hp2 ap2 h
      refine ⟨i1, i2, ?_, fun u hu => ?_⟩
      · have f0 := fit_turn hp hp ap ap (c := fun _ => 0) (fun t ht => by unfold ind; rw [if_pos ht]; rfl) c
        have f1 := f0.symm hp2 hp ap2 ap
        refine (f1.add hp hp2 i1 ap ap2 i2 i3).congr o fun x _ _ => ?_
        rw [List.count_cons]
        by_cases e : x = v
        · subst e; simp; omega
        · have e2 : (v == x) = false := by simpa using fun z => e z.symm
          rw [if_neg e, e2]; simp
      · rcases List.mem_cons.mp hu with rfl | hu
        · exact (spr_mem.mp c).1
        · exact i4 u hu
    · cases h
theorem count_sum {n : Int} : ∀ {row : List Int}, (∀ v ∈ row, 0 ≤ v ∧ v < n) → sumI ((irng 0 n).map fun v => (row.count v : Int)) = row.length
  | [], _ => sumI_zero fun x hx => by obtain ⟨v, _, rfl⟩ := List.mem_map.mp hx; simp
  | u :: row, h => by
    have ih := count_sum (row := row) fun v hv => h v (List.mem_cons_of_mem _ hv)
    have e : (irng 0 n).map (fun v => ((u :: row).count v : Int)) = (irng 0 n).map fun v => (row.count v : Int) - (if v = u then -1 else 0) := List.map_congr_left fun v _ => by
      rw [List.count_cons]
      by_cases c : v = u
      · subst c; simp
      · have e2 : (u == v) = false := by simpa using fun z => c z.symm
        rw [if_neg c, e2]; simp
    rw [e, sumI_sub (fun v => (row.count v : Int)) (fun v => if v = u then -1 else 0), ih, List.length_cons]
    have : ∀ {L : List Int}, L.Nodup → u ∈ L → sumI (L.map fun v => if v = u then (-1 : Int) else 0) = -1 := fun {L} nd hu => by
      induction L with
      | nil => simp at hu
      | cons x L ihL =>
        rw [List.nodup_cons] at nd
        rw [List.map_cons, sumI_cons]
        by_cases c : x = u
        · subst c
          rw [if_pos rfl, sumI_zero fun y hy => ?_]
          · rfl
          · obtain ⟨v, hv, rfl⟩ := List.mem_map.mp hy
            rw [if_neg fun z => nd.1 (by rw [← z]; exact hv)]
        · rw [if_neg c, ihL nd.2 (by rcases List.mem_cons.mp hu with e | e; exact absurd e.symm c; exact e)]; rfl
    rw [this ((ints_sorted _ _).imp fun h => by omega) (mem_ints.mpr (h u List.mem_cons_self))]
    omega
theorem sumI_mono {α : Type} {f g : α → Int} : ∀ {L : List α}, (∀ x ∈ L, f x ≤ g x) → sumI (L.map f) ≤ sumI (L.map g)
  | [], _ => Int.le_refl _
  | x :: L, h => by
    have := h x List.mem_cons_self
    have := sumI_mono (L := L) fun y hy => h y (List.mem_cons_of_mem _ hy)
    rw [List.map_cons, List.map_cons, sumI_cons, sumI_cons]
    omega
/-- no way of turned springs is shorter than the least numbers -/
theorem norm_least {w : Web} (o : w.ok) {p q l row : List Int} (hp : isP w p) (hq : isP w q) (ap : Acyc (arw w p)) (aq : Acyc (arw w q)) (h : Norm w p q l) (hr : turnsGo w p row = some q) : sumI l ≤ row.length := by
  have n1 := o.n1
  obtain ⟨_, _, f, rg⟩ := go_fit o hp ap hr
  rw [← count_sum rg]
  have hl := h.len
  have el : l = (irng 0 w.n).map fun v => gI l v := by
    refine List.ext_getElem (by rw [List.length_map, ints_len]; omega) fun i h1 h2 => ?_
    rw [List.getElem_map]
    have : (irng 0 w.n)[i]'(by rw [ints_len]; omega) = (i : Int) := by
      have := ints_get (lo := 0) (hi := w.n) (k := i) (by omega)
      rw [List.getElem?_eq_getElem (by rw [ints_len]; omega)] at this
      have := Option.some.inj this
      omega
    rw [this]
    unfold gI
    rw [Int.toNat_natCast, getElem!_pos l i h1]
  rw [el]
  refine sumI_mono fun x hx => ?_
  have hx := mem_ints.mp hx
  obtain ⟨y, hy, hy0⟩ := h.z x hx.1 hx.2
  have dif : ∀ {u v}, Reach w u v → gI l u - (row.count u : Int) = gI l v - (row.count v : Int) := fun r => by
    induction r with
    | refl => rfl
    | step _ t ih =>
      have a := fit_step hp hq ap aq h.fit (z := (_, _)) t
      have b := fit_step hp hq ap aq f (z := (_, _)) t
      simp only at a b
      omega
  have := dif hy
  omega
end Lib
end G7

set_option maxRecDepth 100000
namespace G7
open PySem

local macro_rules | `(tactic| walk_at "op") => `(tactic| first
  | with_reducible exact addD_i _ _ | with_reducible exact subD_i _ _ | with_reducible exact ltD_i _ _ | with_reducible exact leD_i _ _ | with_reducible exact gtD_i _ _ | with_reducible exact geD_i _ _
  | with_reducible exact eqD_i _ _ | with_reducible exact neD_i _ _ | with_reducible exact lenD_lm | with_reducible exact lenD_tm | with_reducible exact lenD_l _ | with_reducible exact lenD_t _ | with_reducible exact dP_0 _ | with_reducible exact dP_1 _
  | with_reducible exact ixD_t0 _ _ | with_reducible exact ixD_t1 _ _ _ | with_reducible exact ixD_t2 _ _ _ _ | with_reducible exact ixD_l0 _ _ | with_reducible exact ixD_l0m | with_reducible exact ixD_t0m | exact eqD_sT | exact eqD_sF | exact neD_sT | exact neD_sF | with_reducible exact ixD_l1 _ _ _
  | with_reducible exact Lib.dW_0 _ | with_reducible exact Lib.dW_1 _ | with_reducible exact tupD_l _ | with_reducible exact tupD_t _ | with_reducible exact lstD_l _ | with_reducible exact lstD_t _ | with_reducible exact max2D_i _ _ | with_reducible exact min2D_i _ _
  | with_reducible exact isTD_i | with_reducible exact revT_m | with_reducible exact slL_m1 | with_reducible exact tupRevD_m | ((with_reducible refine' indexD_li ?_); with_reducible assumption) | ((with_reducible refine' indexD_xi ?_); with_reducible assumption) | ((with_reducible refine' Lib.indexD_Xi ?_); with_reducible assumption) | with_reducible exact isTD_s _ _ | with_reducible exact powD_6 | with_reducible exact powD_16 | with_reducible exact powD_18 | with_reducible exact isTD_t _ _ | with_reducible exact isTD_l _ _ | with_reducible exact isTD_b _ _ | with_reducible exact isTD_n _ | with_reducible exact isD_bb _ _ | with_reducible exact isNotD_bb _ _ | with_reducible exact isD_n' () | with_reducible exact isD_lN _ | with_reducible exact isD_tN _ | with_reducible exact isNotD_lN _ | with_reducible exact isNotD_tN _ | with_reducible exact intD_b _ | with_reducible exact intD_i _ | with_reducible exact negD_i _ | with_reducible exact eqD_b _ _ | with_reducible exact neD_b _ _
  | with_reducible exact neD_l0 _ | with_reducible exact eqD_l0 _ | with_reducible exact eqD_li _ _ | with_reducible exact neD_li _ _ | with_reducible exact eqD_ti _ _ | with_reducible exact neD_ti _ _
  | with_reducible exact eqD_lp _ _ | with_reducible exact neD_lp _ _ | with_reducible exact eqD_tp _ _ | with_reducible exact neD_tp _ _
  | with_reducible exact inD_li _ _ | with_reducible exact inD_ti _ _ | with_reducible exact notInD_li _ _ | with_reducible exact notInD_ti _ _ | with_reducible exact inD_lp _ _ | with_reducible exact inD_tp _ _
  | with_reducible exact notInD_lp _ _ | with_reducible exact notInD_tp _ _ | with_reducible exact inD_lp' _ _ _ | with_reducible exact inD_tp' _ _ _ | with_reducible exact notInD_lp' _ _ _ | with_reducible exact notInD_tp' _ _ _
  | with_reducible exact inD_pair _ _ _ | with_reducible exact sortedAD_i _ | with_reducible exact sortedAD_p _ | with_reducible exact allD_b _ | with_reducible exact anyD_b _
  | ((with_reducible refine' addD_1m ?_); omega) | with_reducible exact Lib.maxAD_0 _ | with_reducible exact Lib.din_dI _ _ | with_reducible exact Lib.dinTD_p _ _ | with_reducible exact Lib.dninTD_p _ _ | with_reducible exact Lib.lenTD_p _ | with_reducible exact Lib.sortTLD_p _ | with_reducible exact Lib.dnin_dI _ _ | ((with_reducible apply Lib.dget_dI); with_reducible assumption) | ((with_reducible refine' repLD_0 ?_ ?_) <;> omega) | ((with_reducible refine' slT_tom ?_); omega) | ((with_reducible refine' slT_frm ?_); omega) | ((with_reducible refine' slL_tom ?_); omega) | ((with_reducible refine' slL_frm ?_); omega) | ((with_reducible refine' modD_i ?_); omega) | ((with_reducible refine' fdivD_i ?_ ?_) <;> omega) | ((with_reducible refine' mulID_i (okMul_l ?_ ?_)) <;> omega) | ((with_reducible refine' mulID_i (okMul_r ?_ ?_)) <;> omega)
  | ((with_reducible refine' ixD_lm ?_ ?_) <;> omega) | ((with_reducible refine' ixD_tm ?_ ?_) <;> omega) | with_reducible assumption)
local macro_rules | `(tactic| walk_at "env") => `(tactic| simp only [List.set_cons_zero, List.set_cons_succ, upd, wp_cons, wp_nil, back_cons, back_nil, List.getElem?_cons_zero, List.getElem?_cons_succ, Option.getD_some, toF])
local macro_rules | `(tactic| walk_at "cond") => `(tactic| first | assumption | omega | exact rfl | (focus (simp; done)))
local macro_rules | `(tactic| walk_at "mut") => `(tactic| first | ((with_reducible refine' popAtF_m ?_ ?_) <;> omega) | ((with_reducible refine' appendF_m ?_); first | omega | (simp only [List.length_append, List.length_map, List.length_cons, List.length_nil]; omega)) | ((with_reducible refine' removeF_i ?_); (first | assumption | (simp; done))) | ((with_reducible refine' extendF_m ?_); first | omega | (simp only [List.length_append, List.length_map, List.length_cons, List.length_nil]; omega)))
local macro_rules | `(tactic| walk_at "s") => `(tactic| first
  | with_reducible refine' i_seq ?_ | ((with_reducible apply i_frz); (exact rfl); (first | exact nt_l | exact nt_d)) | ((with_reducible apply i_asV); (exact rfl)) | ((with_reducible apply i_asO); (exact rfl); (first | exact nt_l | exact nt_d)) | with_reducible refine' i_op2 ?_ | with_reducible refine' i_acons ?_ | with_reducible refine' i_anil ?_ | ((with_reducible apply i_var); exact rfl) | with_reducible refine' i_c ?_
  | with_reducible refine' i_asg ?_ | with_reducible refine' i_par ?_ | with_reducible refine' i_par2 ?_ | with_reducible refine' i_call ?_ | with_reducible refine' i_blt ?_ | with_reducible refine' i_op1 ?_ | with_reducible refine' i_tup ?_ | with_reducible refine' i_list ?_
  | ((with_reducible apply i_ex); walk_at "op") | ((with_reducible apply i_exk); walk_at "op")
  | with_reducible refine' i_val ?_ | with_reducible refine' i_exb ?_ | with_reducible refine' i_if ?_ | with_reducible refine' i_ret ?_ | with_reducible refine' i_nil ?_
  | with_reducible refine' i_T ?_ | with_reducible refine' i_F ?_ | with_reducible refine' i_tand ?_ | with_reducible refine' i_tor ?_ | with_reducible refine' i_tnot ?_ | with_reducible refine' i_yes ?_
  | with_reducible refine' i_and ?_ | with_reducible refine' i_or ?_ | with_reducible refine' i_not ?_ | with_reducible refine' i_ife ?_ | with_reducible refine' i_chain ?_
  | with_reducible refine' i_comp ?_ | with_reducible refine' i_iseq ?_ | with_reducible refine' i_irg1 ?_ | with_reducible refine' i_irg2 ?_ | with_reducible refine' i_izip ?_ | with_reducible refine' i_lstZ ?_ | with_reducible refine' i_lzT ?_ | with_reducible refine' i_lzL ?_ | with_reducible refine' i_disp1 ?_ | with_reducible refine' i_keyI ?_ | with_reducible refine' i_zipT ?_ | with_reducible refine' i_zipL ?_ | with_reducible refine' i_ienum ?_ | ((with_reducible apply i_enum); exact rfl) | with_reducible refine' i_irev ?_
  | with_reducible refine' i_for ?_ | with_reducible refine' i_lstrg ?_ | with_reducible refine' i_asgG ?_ | with_reducible refine' i_asgP ?_ | with_reducible refine' i_expr ?_ | with_reducible refine' i_retN ?_ | with_reducible refine' i_brk ?_ | with_reducible refine' i_cnt ?_
  | with_reducible refine' i_on ?_ | with_reducible refine' i_os ?_ | with_reducible refine' i_sl ?_ | ((with_reducible apply i_exl); exact rfl)
  | ((with_reducible refine' i_rg1 ?_ ?_); (constructor <;> omega)) | ((with_reducible refine' i_rg2 ?_ ?_); (refine ⟨?_, ?_, ?_, ?_⟩ <;> omega))
  | with_reducible refine' i_exi ?_
  | (with_reducible refine' i_len (Nat.le_of_ble_eq_true rfl) ?_)
  | ((with_reducible apply i_g); exact rfl) | ((with_reducible refine' i_plix ?_ ?_); exact rfl) | with_reducible refine' i_plset ?_ | with_reducible refine' i_np ?_
  | with_reducible refine' Lib.i_xt ?_ | with_reducible refine' Lib.i_idxX ?_ | with_reducible refine' i_idxL ?_ | with_reducible refine' i_idl ?_ | with_reducible refine' i_idx ?_
  | ((with_reducible apply i_mut1); (exact rfl); walk_at "mut")
  | ((with_reducible apply Lib.i_keysT); exact rfl) | (with_reducible refine' Lib.i_dputT ?_) | ((with_reducible apply Lib.i_dputT0); exact rfl) | ((with_reducible apply Lib.i_dputT1); (exact rfl); omega)
  | (with_reducible refine' Lib.i_dput ?_) | ((with_reducible apply Lib.i_dput0); exact rfl) | ((with_reducible apply Lib.i_dput1); (exact rfl); omega)
  | ((with_reducible refine' i_dT ?_ ?_); walk_at "cond") | ((with_reducible refine' i_dF ?_ ?_); walk_at "cond") | ((with_reducible refine' i_ndT ?_ ?_); walk_at "cond") | ((with_reducible refine' i_ndF ?_ ?_); walk_at "cond")
  | ((with_reducible refine' i_bT ?_ ?_); (first | with_reducible assumption | exact rfl)) | ((with_reducible refine' i_bF ?_ ?_); (first | with_reducible assumption | exact rfl))
  | ((with_reducible apply i_setixm); (exact rfl); omega; omega) | (with_reducible refine' i_setix ?_) | ((with_reducible apply i_setix0); exact rfl) | ((with_reducible apply i_mut); exact rfl))
local macro_rules | `(tactic| walk_at "run") => `(tactic| (repeat (walk_at "s")); try walk_at "env")
local macro_rules | `(tactic| walk_at "start") => `(tactic| simp only [startE, List.map_cons, List.map_nil, List.length_cons, List.length_nil, Nat.reduceAdd, Nat.reduceSub, Nat.zero_add, List.replicate_succ, List.replicate_zero, List.cons_append, List.nil_append])
local macro_rules | `(tactic| walk_at "len") => `(tactic| first | omega | (simp only [List.length_map, List.length_append, List.length_cons, List.length_nil]; omega) | (refine Nat.le_trans ?_ (Nat.le_refl _); have := List.length_filter_le; simp_all; done))
local macro_rules | `(tactic| walk_at "opl") => `(tactic| first | ((with_reducible refine' addD_lm ?_); walk_at "len") | ((with_reducible refine' addD_tm ?_); walk_at "len") | ((with_reducible refine' addLD_lm ?_); walk_at "len"))
/-- a comprehension: of what is walked itself, of ints, pairs, truths -/
local macro_rules | `(tactic| walk_at "comp") => `(tactic| first
  | (refine comp_fil ?_ (fun x hx => ?_) ?_; rotate_left 1; focus ((try have hx1 := Fact.use (by assumption) hx); (try have hx2 := mem_ints.mp hx); (try dsimp only at hx1); refine ⟨_, rfl, fun R hR => ?_, fun hp R hR => ?_, rfl⟩ <;> (repeat (walk_at "s")) <;> exact hR))
  | (refine comp_all (en2 := PySem.PyData.int) ?_ (fun x hx => ?_) ?_; rotate_left 1; focus ((try have hx1 := Fact.use (by assumption) hx); (try have hx2 := mem_ints.mp hx); (try dsimp only at hx1); refine ⟨_, rfl, fun R hR => ?_, rfl⟩ <;> (repeat (walk_at "s")) <;> exact hR))
  | (refine comp_all (en2 := PySem.PyData.bool) ?_ (fun x hx => ?_) ?_; rotate_left 1; focus ((try have hx1 := Fact.use (by assumption) hx); (try have hx2 := mem_ints.mp hx); (try dsimp only at hx1); refine ⟨_, rfl, fun R hR => ?_, rfl⟩ <;> (repeat (walk_at "s")) <;> exact hR))
  | (refine comp_all (en2 := dP) ?_ (fun x hx => ?_) ?_; rotate_left 1; focus ((try have hx1 := Fact.use (by assumption) hx); (try have hx2 := mem_ints.mp hx); (try dsimp only at hx1); refine ⟨_, rfl, fun R hR => ?_, rfl⟩ <;> (repeat (walk_at "s")) <;> exact hR))
  | (refine comp_el (en2 := PySem.PyData.int) ?_ ?_ (fun x hx => ?_) ?_; rotate_left 2; focus ((try have hx1 := Fact.use (by assumption) hx); (try have hx2 := mem_ints.mp hx); (try dsimp only at hx1); refine ⟨_, rfl, fun R hR => ?_, fun hp R hR => ?_, rfl⟩ <;> (repeat (walk_at "s")) <;> exact hR))
  | (refine comp_el (en2 := dP) ?_ ?_ (fun x hx => ?_) ?_; rotate_left 2; focus ((try have hx1 := Fact.use (by assumption) hx); (try have hx2 := mem_ints.mp hx); (try dsimp only at hx1); refine ⟨_, rfl, fun R hR => ?_, fun hp R hR => ?_, rfl⟩ <;> (repeat (walk_at "s")) <;> exact hR))
  | (refine comp_el (en2 := PySem.PyData.bool) ?_ ?_ (fun x hx => ?_) ?_; rotate_left 2; focus ((try have hx1 := Fact.use (by assumption) hx); (try have hx2 := mem_ints.mp hx); (try dsimp only at hx1); refine ⟨_, rfl, fun R hR => ?_, fun hp R hR => ?_, rfl⟩ <;> (repeat (walk_at "s")) <;> exact hR))
  | (refine comp_allD (en2 := PySem.PyData.int) ?_ (fun x hx => ?_) ?_; rotate_left 1; focus ((try have hx1 := Fact.use (by assumption) hx); (try dsimp only at hx1); refine ⟨_, rfl, fun R hR => ?_, rfl⟩ <;> (repeat (walk_at "s")) <;> exact hR))
  | (refine comp_allD (en2 := PySem.PyData.bool) ?_ (fun x hx => ?_) ?_; rotate_left 1; focus ((try have hx1 := Fact.use (by assumption) hx); (try dsimp only at hx1); refine ⟨_, rfl, fun R hR => ?_, rfl⟩ <;> (repeat (walk_at "s")) <;> exact hR)))
local macro_rules | `(tactic| walk_at "runc") => `(tactic| (repeat (first | walk_at "s" | walk_at "comp")); try walk_at "env")
/-- as run, but stops ahead of an if -/
local macro_rules | `(tactic| walk_at "runI") => `(tactic| (repeat ((fail_if_success (with_reducible refine' i_if ?_)); walk_at "s")); try walk_at "env")
open PySem
namespace Lib
def tb (m b : Int) : Bool := m.toNat.testBit b.toNat
theorem and1 {m b : Int} (h : 0 ≤ m) : Builtin.bitAnd (m / 2 ^ b.toNat) 1 = if tb m b = true then 1 else 0 := by
  have h2 : 0 ≤ m / 2 ^ b.toNat := Int.ediv_nonneg h (by have : (0 : Int) < 2 ^ b.toNat := Int.pow_pos (by omega); omega)
  unfold Builtin.bitAnd tb
  rw [decide_eq_true h2, decide_eq_true (show (0 : Int) ≤ 1 by omega)]
  simp only
  have e : (m / 2 ^ b.toNat).toNat = m.toNat / 2 ^ b.toNat := by
    obtain ⟨k, rfl⟩ := Int.eq_ofNat_of_zero_le h
    rw [Int.toNat_natCast]
    have : ((k : Int) / 2 ^ b.toNat) = ((k / 2 ^ b.toNat : Nat) : Int) := by rw [Int.natCast_ediv]; simp
    rw [this, Int.toNat_natCast]
  rw [e, show (1 : Int).toNat = 1 from rfl, Nat.and_one_is_mod, Nat.testBit_eq_decide_div_mod_eq]
  have : m.toNat / 2 ^ b.toNat % 2 < 2 := Nat.mod_lt _ (by omega)
  by_cases c : m.toNat / 2 ^ b.toNat % 2 = 1
  · rw [c]; simp
  · have : m.toNat / 2 ^ b.toNat % 2 = 0 := by omega
    rw [this]; simp
theorem bitNot_bitNot (x : Int) : Builtin.bitNot (Builtin.bitNot x) = x := by unfold Builtin.bitNot; omega
theorem or_nn {a b : Int} (ha : 0 ≤ a) (hb : 0 ≤ b) : Builtin.bitOr a b = ((a.toNat ||| b.toNat : Nat) : Int) := by
  have h1 : ¬ 0 ≤ Builtin.bitNot a := by unfold Builtin.bitNot; omega
  have h2 : ¬ 0 ≤ Builtin.bitNot b := by unfold Builtin.bitNot; omega
  unfold Builtin.bitOr Builtin.bitAnd
  rw [decide_eq_false h1, decide_eq_false h2]
  simp only [bitNot_bitNot]
theorem or_pos {a b : Int} (ha : 0 ≤ a) (hb : 0 ≤ b) : 0 ≤ Builtin.bitOr a b := by rw [or_nn ha hb]; omega
theorem tb_or {a b i : Int} (ha : 0 ≤ a) (hb : 0 ≤ b) : tb (Builtin.bitOr a b) i = (tb a i || tb b i) := by
  rw [or_nn ha hb]
  unfold tb
  rw [Int.toNat_natCast, Nat.testBit_or]
theorem tb_pow {e i : Int} (he : 0 ≤ e) (hi : 0 ≤ i) : tb (2 ^ e.toNat) i = decide (i = e) := by
  unfold tb
  have : ((2 : Int) ^ e.toNat).toNat = 2 ^ e.toNat := by
    have h : ((2 : Int) ^ e.toNat) = ((2 ^ e.toNat : Nat) : Int) := by simp
    rw [h, Int.toNat_natCast]
  rw [this, Nat.testBit_two_pow]
  exact decide_eq_decide.mpr (by omega)
theorem pow_nn (e : Nat) : (0 : Int) ≤ 2 ^ e := by have : (0 : Int) < 2 ^ e := Int.pow_pos (by omega); omega
theorem tb_zero (i : Int) : tb 0 i = false := by unfold tb; simp
def moreF (rs : List Int) (e : Int) : Int := Builtin.bitOr (gI rs e) (2 ^ e.toNat)
def ledF (rs : List Int) (b e : Int) : List Int := (enumL rs).map fun z => if z.1 = b ∨ tb z.2 b = true then Builtin.bitOr z.2 (moreF rs e) else z.2
theorem enum_len {α : Type} (l : List α) : (enumL l).length = l.length := by
  unfold enumL
  rw [List.length_zip, ints_len]; omega
theorem led_len (rs : List Int) (b e : Int) : (ledF rs b e).length = rs.length := by unfold ledF; rw [List.length_map, enum_len]
theorem enum_get {α : Type} [Inhabited α] {l : List α} {i : Nat} (h : i < l.length) : (enumL l)[i]'(by rw [enum_len]; exact h) = ((i : Int), l[i]!) := by
  have e1 : (irng 0 (l.length : Int))[i]'(by rw [ints_len]; omega) = (i : Int) := by simp [irng]
  unfold enumL
  rw [List.getElem_zip, e1, getElem!_pos l i h]
theorem led_gI {rs : List Int} {b e x : Int} (h0 : 0 ≤ x) (h1 : x < (rs.length : Int)) : gI (ledF rs b e) x = if x = b ∨ tb (gI rs x) b = true then Builtin.bitOr (gI rs x) (moreF rs e) else gI rs x := by
  have hx : x.toNat < rs.length := by omega
  have e1 : gI (ledF rs b e) x = (ledF rs b e)[x.toNat]'(by rw [led_len]; exact hx) := getElem!_pos _ _ _
  rw [e1]
  unfold ledF
  rw [List.getElem_map, enum_get hx]
  rw [show ((x.toNat : Nat) : Int) = x by omega]
theorem gI_nn {rs : List Int} (h : ∀ x ∈ rs, 0 ≤ x) {i : Int} (h0 : 0 ≤ i) (h1 : i < (rs.length : Int)) : 0 ≤ gI rs i := h _ (gI_mem h0 h1)
theorem more_nn {rs : List Int} (h : ∀ x ∈ rs, 0 ≤ x) {e : Int} (h0 : 0 ≤ e) (h1 : e < (rs.length : Int)) : 0 ≤ moreF rs e := or_pos (gI_nn h h0 h1) (pow_nn _)
theorem led_nn {rs : List Int} (h : ∀ x ∈ rs, 0 ≤ x) {b e : Int} (h0 : 0 ≤ e) (h1 : e < (rs.length : Int)) : ∀ x ∈ ledF rs b e, 0 ≤ x := fun x hx => by
  obtain ⟨z, hz, rfl⟩ := List.mem_map.mp hx
  have hz2 := h _ (mem_enumL hz).2.2.2
  split
  · exact or_pos hz2 (more_nn h h0 h1)
  · exact hz2
/-- led_on: slots 0 reach:r, 1 begin:r, 2 end:r, 3 more:v, 4 found:o, 5 place:v, 6 some:v; modes ['rd', 'rd', 'rd']; answer fz -/
def wb_led_on : WS :=
  (wSeq (wAsg 3 (wOp2 orBD (wOp2 ixD (wVar 0) (wVar 2)) (wOp2 shlD (wC (.int 1)) (wVar 2))))
    (wSeq (wAsg 4 (wList waNil))
    (wSeq (wFor (wiEnum (wVar 0)) (gT [(gN 5), (gN 6)]) (wSeq (wIf (tOr (tVal (wOp2 eqD (wVar 5) (wVar 1))) (tVal (wOp2 eqD (wOp2 andBD (wOp2 shrD (wVar 6) (wVar 1)) (wC (.int 1))) (wC (.int 1))))) (wAsg 6 (wOp2 orBD (wVar 6) (wVar 3))) wNil)
    (wExpr (wMut 4 appendF (waCons (wVar 6) waNil)))))
    (wRet (wBlt tupD (waCons (wVar 4) waNil))))))
def S_led_on : FS := fun ds Post => ∃ (rs : List Int) (b e : Int), ds = [TI rs, .int b, .int e] ∧ rs.length ≤ 1000 ∧ (∀ x ∈ rs, 0 ≤ x) ∧ 0 ≤ b ∧ 0 ≤ e ∧ e < (rs.length : Int) ∧ Post (TI (ledF rs b e))
theorem take_more {α : Type} (x : α) (r : List α) : ∀ q : List α, (q ++ x :: r).take (q.length + 1) = q ++ [x]
  | [] => by simp
  | a :: q => by
    have := take_more x r q
    simp only [List.cons_append, List.length_cons, List.take_succ_cons, this]
theorem led_take {rs : List Int} {b e : Int} {pre post : List (Int × Int)} {z : Int × Int} (h : enumL rs = pre ++ z :: post) : (ledF rs b e).take (pre.length + 1) = (ledF rs b e).take pre.length ++ [if z.1 = b ∨ tb z.2 b = true then Builtin.bitOr z.2 (moreF rs e) else z.2] := by
  unfold ledF
  rw [h, List.map_append, List.map_cons]
  generalize hq : pre.map (fun z => if z.1 = b ∨ tb z.2 b = true then Builtin.bitOr z.2 (moreF rs e) else z.2) = q
  have hl : pre.length = q.length := by rw [← hq, List.length_map]
  rw [hl, take_more, List.take_left' rfl]
theorem m_led_on {rk : RK} : ∀ ds Post, S_led_on ds Post → wb_led_on { nx := fun _ => Post .none ∧ rk = .fz, rt := fun d _ => Post d } (startE 7 ds) := by
  rintro ds Post ⟨rs, b, e, rfl, hl, hn, b0, e0, e1, hP⟩
  unfold wb_led_on
  walk_at "start"
  have hg : ixD (TI rs) (.int e) = some (.int (gI rs e)) := ixD_tm e0 e1
  have hsh : shlD (.int 1) (.int e) = some (.int (2 ^ e.toNat)) := by
    simp only [shlD]
    rw [if_pos ⟨e0, by omega, by decide⟩, Int.one_mul]
  have hor : orBD (.int (gI rs e)) (.int (2 ^ e.toNat)) = some (.int (moreF rs e)) := rfl
  walk_at "run"
  refine for_st (L := enumL rs) [4, 5, 6] (fun pre vs => ∃ (a c : Option D), vs = [some (LI ((ledF rs b e).take pre.length)), a, c]) [_, _, _] rfl ⟨_, _, rfl⟩ ?_ ?_
  · rintro pre z post _ hL ⟨a, c, rfl⟩ R hR
    have hz := mem_enumL (show z ∈ enumL rs by rw [hL]; simp)
    have hz0 : 0 ≤ z.2 := hn _ hz.2.2.2
    have hll := led_len rs b e
    have htl : ((ledF rs b e).take pre.length).length ≤ 1000 := by rw [List.length_take]; omega
    have hsr : shrD (.int z.2) (.int b) = some (.int (z.2 / 2 ^ b.toNat)) := by simp [shrD, b0]
    have han : andBD (.int (z.2 / 2 ^ b.toNat)) (.int 1) = some (.int (if tb z.2 b = true then 1 else 0)) := by simp only [andBD, and1 hz0]
    have hor2 : orBD (.int z.2) (.int (moreF rs e)) = some (.int (Builtin.bitOr z.2 (moreF rs e))) := rfl
    have hR1 := hR [some (LI ((ledF rs b e).take (pre ++ [z]).length)), some (.int z.1), some (.int (if z.1 = b ∨ tb z.2 b = true then Builtin.bitOr z.2 (moreF rs e) else z.2))] ⟨_, _, rfl⟩
    rw [List.length_append, List.length_singleton, led_take hL] at hR1
    by_cases c1 : z.1 = b
    · rw [if_pos (.inl c1)] at hR1
      walk_at "run"
      exact hR1
    · by_cases c2 : tb z.2 b = true
      · rw [if_pos (.inr c2)] at hR1
        rw [if_pos c2] at han
        walk_at "run"
        exact hR1
      · rw [if_neg (fun c => c.elim c1 c2)] at hR1
        rw [if_neg c2] at han
        walk_at "run"
        exact hR1
  · rintro _ ⟨a, c, rfl⟩
    walk_at "run"
    rw [enum_len, List.take_of_length_le (by rw [led_len]; exact Nat.le_refl _)]
    exact hP
abbrev PR := List Int × List Int
abbrev dPR (z : PR) : D := .tuple [TI z.1, TI z.2]
def waysT (a b : Int) : List (Int × Int × Int) := [(0, b, a), (1, a, b)]
def growF (L : List PR) (a b : Int) : List PR := L.flatMap fun z => ((waysT a b).filter fun y => !tb (gI z.2 y.2.2) y.2.1).map fun y => (z.1 ++ [y.1], ledF z.2 y.2.1 y.2.2)
theorem grow_len (L : List PR) (a b : Int) : (growF L a b).length ≤ 2 * L.length := by
  unfold growF
  induction L with
  | nil => simp
  | cons z L ih =>
    rw [List.flatMap_cons, List.length_append, List.length_cons, List.length_map]
    have := List.length_filter_le (fun y : Int × Int × Int => !tb (gI z.2 y.2.2) y.2.1) (waysT a b)
    have h2 : (waysT a b).length = 2 := rfl
    omega
abbrev d3 (y : Int × Int × Int) : D := .tuple [.int y.1, .int y.2.1, .int y.2.2]
/-- grown: slots 0 begun:r, 1 a:v, 2 b:v, 3 found:o, 4 pointing:v, 5 reach:v, 6 way:v, 7 begin:v, 8 end:v; modes ['rd', 'fz', 'fz']; answer fz -/
def wb_grown (S_led_on : FS) : WS :=
  (wSeq (wAsg 3 (wList waNil))
    (wSeq (wFor (wiSeq (wVar 0)) (gT [(gN 4), (gN 5)]) (wFor (wiSeq (wTup (waCons (wTup (waCons (wC (.int 0)) (waCons (wVar 2) (waCons (wVar 1) waNil)))) (waCons (wTup (waCons (wC (.int 1)) (waCons (wVar 1) (waCons (wVar 2) waNil)))) waNil)))) (gT [(gN 6), (gN 7), (gN 8)]) (wIf (tVal (wOp2 eqD (wOp2 andBD (wOp2 shrD (wOp2 ixD (wVar 5) (wVar 8)) (wVar 7)) (wC (.int 1))) (wC (.int 0)))) (wExpr (wMut 3 appendF (waCons (wTup (waCons (wOp2 addD (wVar 4) (wTup (waCons (wVar 6) waNil))) (waCons (wCall S_led_on (waCons (wVar 5) (waCons (wVar 7) (waCons (wVar 8) waNil)))) waNil))) waNil))) wNil)))
    (wRet (wVar 3))))
def S_grown : FS := fun ds Post => ∃ (L : List PR) (n a b : Int), ds = [.list (L.map dPR), .int a, .int b] ∧ L.length ≤ 1000 ∧ n ≤ 1000 ∧ (0 ≤ a ∧ a < n) ∧ (0 ≤ b ∧ b < n) ∧ (∀ z ∈ L, z.1.length ≤ 1000 ∧ (z.2.length : Int) = n ∧ ∀ x ∈ z.2, 0 ≤ x) ∧ Post (.list ((growF L a b).map dPR))
theorem m_grown {rk : RK} : ∀ ds Post, S_grown ds Post → wb_grown S_led_on { nx := fun _ => Post .none ∧ rk = .fz, rt := fun d _ => Post d } (startE 9 ds) := by
  rintro ds Post ⟨L, n, a, b, rfl, hl, n1, ha, hb, hz, hP⟩
  unfold wb_grown
  walk_at "start"
  walk_at "run"
  refine for_st (enc := dPR) [3, 4, 5, 6, 7, 8] (fun pre vs => ∃ (s1 s2 s3 s4 s5 : Option D), vs = [some (.list ((growF pre a b).map dPR)), s1, s2, s3, s4, s5]) [_, _, _, _, _, _] rfl ⟨_, _, _, _, _, rfl⟩ ?_ ?_
  · rintro pre z post _ hL ⟨s1, s2, s3, s4, s5, rfl⟩ R hR
    obtain ⟨h1, h2, h3⟩ := hz z (by rw [hL]; simp)
    have hpl : pre.length < L.length := by rw [hL]; simp
    have hgl := grow_len pre a b
    refine ⟨_, rfl, ?_⟩
    walk_at "run"
    refine for_st (enc := d3) (L := waysT a b) [3, 6, 7, 8] (fun pr vs => ∃ (s3 s4 s5 : Option D), vs = [some (.list ((growF pre a b ++ (pr.filter fun y => !tb (gI z.2 y.2.2) y.2.1).map fun y => (z.1 ++ [y.1], ledF z.2 y.2.1 y.2.2)).map dPR)), s3, s4, s5]) [_, _, _, _] (by rfl) ⟨_, _, _, by rw [List.filter_nil, List.map_nil, List.append_nil]⟩ ?_ ?_
    · rintro pr y po _ hL2 ⟨s3, s4, s5, rfl⟩ R2 hR2
      have hy : ((0 ≤ y.2.1 ∧ y.2.1 < n) ∧ 0 ≤ y.2.2 ∧ y.2.2 < n) := by
        have : y ∈ waysT a b := by rw [hL2]; simp
        simp only [waysT, List.mem_cons, List.not_mem_nil, or_false] at this
        rcases this with rfl | rfl
        · exact ⟨hb, ha⟩
        · exact ⟨ha, hb⟩
      have hprl : pr.length ≤ 2 := by
        have h4 : (waysT a b).length = 2 := rfl
        rw [hL2] at h4
        simp at h4; omega
      have hfl := List.length_filter_le (fun y : Int × Int × Int => !tb (gI z.2 y.2.2) y.2.1) pr
      have hg : ixD (TI z.2) (.int y.2.2) = some (.int (gI z.2 y.2.2)) := ixD_tm hy.2.1 (by omega)
      have hgn := gI_nn h3 hy.2.1 (by omega)
      have hsr : shrD (.int (gI z.2 y.2.2)) (.int y.2.1) = some (.int (gI z.2 y.2.2 / 2 ^ y.2.1.toNat)) := by simp [shrD, hy.1.1]
      have han : andBD (.int (gI z.2 y.2.2 / 2 ^ y.2.1.toNat)) (.int 1) = some (.int (if tb (gI z.2 y.2.2) y.2.1 = true then 1 else 0)) := by simp only [andBD, and1 hgn]
      refine ⟨_, rfl, ?_⟩
      by_cases c : tb (gI z.2 y.2.2) y.2.1 = true
      · rw [if_pos c] at han
        have hR3 := hR2 [_, some (.int y.1), some (.int y.2.1), some (.int y.2.2)] ⟨_, _, _, rfl⟩
        have e1 : [y].filter (fun y => !tb (gI z.2 y.2.2) y.2.1) = [] := List.filter_eq_nil_iff.mpr fun v hv => by rw [List.mem_singleton.mp hv, c]; decide
        rw [List.filter_append, e1, List.append_nil] at hR3
        walk_at "run"
        exact hR3
      · rw [if_neg c] at han
        have c' : tb (gI z.2 y.2.2) y.2.1 = false := by simpa using c
        have hR3 := hR2 [_, some (.int y.1), some (.int y.2.1), some (.int y.2.2)] ⟨_, _, _, rfl⟩
        have e1 : [y].filter (fun y => !tb (gI z.2 y.2.2) y.2.1) = [y] := List.filter_eq_self.mpr fun v hv => by rw [List.mem_singleton.mp hv, c']; rfl
        have e2 : ((pr ++ [y]).filter fun y => !tb (gI z.2 y.2.2) y.2.1).map (fun y => (z.1 ++ [y.1], ledF z.2 y.2.1 y.2.2)) = (pr.filter fun y => !tb (gI z.2 y.2.2) y.2.1).map (fun y => (z.1 ++ [y.1], ledF z.2 y.2.1 y.2.2)) ++ [(z.1 ++ [y.1], ledF z.2 y.2.1 y.2.2)] := by
          rw [List.filter_append, e1, List.map_append]; rfl
        rw [e2, ← List.append_assoc] at hR3
        walk_at "run"
        refine ⟨_, addD_tm1 (by omega), ?_⟩
        walk_at "run"
        refine ⟨z.2, y.2.1, y.2.2, rfl, by omega, h3, hy.1.1, hy.2.1, by omega, ?_⟩
        walk_at "run"
        refine i_mut1 (l := (growF pre a b ++ (pr.filter fun y => !tb (gI z.2 y.2.2) y.2.1).map fun y => (z.1 ++ [y.1], ledF z.2 y.2.1 y.2.2)).map dPR) (l' := (growF pre a b ++ (pr.filter fun y => !tb (gI z.2 y.2.2) y.2.1).map (fun y => (z.1 ++ [y.1], ledF z.2 y.2.1 y.2.2)) ++ [(z.1 ++ [y.1], ledF z.2 y.2.1 y.2.2)]).map dPR) rfl (appendF_m (f := dPR) (x := (z.1 ++ [y.1], ledF z.2 y.2.1 y.2.2)) (by rw [List.length_append, List.length_map]; omega)) ?_
        exact hR3
    · rintro _ ⟨s3, s4, s5, rfl⟩
      walk_at "run"
      have := hR [_, some (TI z.1), some (TI z.2), s3, s4, s5] ⟨_, _, _, _, _, rfl⟩
      rw [show growF (pre ++ [z]) a b = growF pre a b ++ ((waysT a b).filter fun y => !tb (gI z.2 y.2.2) y.2.1).map (fun y => (z.1 ++ [y.1], ledF z.2 y.2.1 y.2.2)) by unfold growF; rw [List.flatMap_append]; simp] at this
      exact this
  · rintro _ ⟨s1, s2, s3, s4, s5, rfl⟩
    walk_at "run"
    exact hP
end Lib
end G7
set_option maxRecDepth 100000
namespace G7
open PySem

local macro_rules | `(tactic| walk_at "op") => `(tactic| first
  | with_reducible exact addD_i _ _ | with_reducible exact subD_i _ _ | with_reducible exact ltD_i _ _ | with_reducible exact leD_i _ _ | with_reducible exact gtD_i _ _ | with_reducible exact geD_i _ _
  | with_reducible exact eqD_i _ _ | with_reducible exact neD_i _ _ | with_reducible exact lenD_lm | with_reducible exact lenD_tm | with_reducible exact lenD_l _ | with_reducible exact lenD_t _ | with_reducible exact dP_0 _ | with_reducible exact dP_1 _
  | with_reducible exact ixD_t0 _ _ | with_reducible exact ixD_t1 _ _ _ | with_reducible exact ixD_t2 _ _ _ _ | with_reducible exact ixD_l0 _ _ | with_reducible exact ixD_l0m | with_reducible exact ixD_t0m | exact eqD_sT | exact eqD_sF | exact neD_sT | exact neD_sF | with_reducible exact ixD_l1 _ _ _
  | with_reducible exact Lib.dW_0 _ | with_reducible exact Lib.dW_1 _ | with_reducible exact tupD_l _ | with_reducible exact tupD_t _ | with_reducible exact lstD_l _ | with_reducible exact lstD_t _ | with_reducible exact max2D_i _ _ | with_reducible exact min2D_i _ _
  | with_reducible exact isTD_i | with_reducible exact revT_m | with_reducible exact slL_m1 | with_reducible exact tupRevD_m | ((with_reducible refine' indexD_li ?_); with_reducible assumption) | ((with_reducible refine' indexD_xi ?_); with_reducible assumption) | ((with_reducible refine' Lib.indexD_Xi ?_); with_reducible assumption) | with_reducible exact isTD_s _ _ | with_reducible exact powD_6 | with_reducible exact powD_16 | with_reducible exact powD_18 | with_reducible exact isTD_t _ _ | with_reducible exact isTD_l _ _ | with_reducible exact isTD_b _ _ | with_reducible exact isTD_n _ | with_reducible exact isD_bb _ _ | with_reducible exact isNotD_bb _ _ | with_reducible exact isD_n' () | with_reducible exact isD_lN _ | with_reducible exact isD_tN _ | with_reducible exact isNotD_lN _ | with_reducible exact isNotD_tN _ | with_reducible exact intD_b _ | with_reducible exact intD_i _ | with_reducible exact negD_i _ | with_reducible exact eqD_b _ _ | with_reducible exact neD_b _ _
  | with_reducible exact neD_l0 _ | with_reducible exact eqD_l0 _ | with_reducible exact eqD_li _ _ | with_reducible exact neD_li _ _ | with_reducible exact eqD_ti _ _ | with_reducible exact neD_ti _ _
  | with_reducible exact eqD_lp _ _ | with_reducible exact neD_lp _ _ | with_reducible exact eqD_tp _ _ | with_reducible exact neD_tp _ _
  | with_reducible exact inD_li _ _ | with_reducible exact inD_ti _ _ | with_reducible exact notInD_li _ _ | with_reducible exact notInD_ti _ _ | with_reducible exact inD_lp _ _ | with_reducible exact inD_tp _ _
  | with_reducible exact notInD_lp _ _ | with_reducible exact notInD_tp _ _ | with_reducible exact inD_lp' _ _ _ | with_reducible exact inD_tp' _ _ _ | with_reducible exact notInD_lp' _ _ _ | with_reducible exact notInD_tp' _ _ _
  | with_reducible exact inD_pair _ _ _ | with_reducible exact sortedAD_i _ | with_reducible exact sortedAD_p _ | with_reducible exact allD_b _ | with_reducible exact anyD_b _
  | ((with_reducible refine' addD_1m ?_); omega) | with_reducible exact Lib.maxAD_0 _ | with_reducible exact Lib.din_dI _ _ | with_reducible exact Lib.dinTD_p _ _ | with_reducible exact Lib.dninTD_p _ _ | with_reducible exact Lib.lenTD_p _ | with_reducible exact Lib.sortTLD_p _ | with_reducible exact Lib.dnin_dI _ _ | ((with_reducible apply Lib.dget_dI); with_reducible assumption) | ((with_reducible refine' repLD_0 ?_ ?_) <;> omega) | ((with_reducible refine' slT_tom ?_); omega) | ((with_reducible refine' slT_frm ?_); omega) | ((with_reducible refine' slL_tom ?_); omega) | ((with_reducible refine' slL_frm ?_); omega) | ((with_reducible refine' modD_i ?_); omega) | ((with_reducible refine' fdivD_i ?_ ?_) <;> omega) | ((with_reducible refine' mulID_i (okMul_l ?_ ?_)) <;> omega) | ((with_reducible refine' mulID_i (okMul_r ?_ ?_)) <;> omega)
  | ((with_reducible refine' ixD_lm ?_ ?_) <;> omega) | ((with_reducible refine' ixD_tm ?_ ?_) <;> omega) | with_reducible assumption)
local macro_rules | `(tactic| walk_at "env") => `(tactic| simp only [List.set_cons_zero, List.set_cons_succ, upd, wp_cons, wp_nil, back_cons, back_nil, List.getElem?_cons_zero, List.getElem?_cons_succ, Option.getD_some, toF])
local macro_rules | `(tactic| walk_at "cond") => `(tactic| first | assumption | omega | exact rfl | (focus (simp; done)))
local macro_rules | `(tactic| walk_at "mut") => `(tactic| first | ((with_reducible refine' popAtF_m ?_ ?_) <;> omega) | ((with_reducible refine' appendF_m ?_); first | omega | (simp only [List.length_append, List.length_map, List.length_cons, List.length_nil]; omega)) | ((with_reducible refine' removeF_i ?_); (first | assumption | (simp; done))) | ((with_reducible refine' extendF_m ?_); first | omega | (simp only [List.length_append, List.length_map, List.length_cons, List.length_nil]; omega)))
local macro_rules | `(tactic| walk_at "s") => `(tactic| first
  | with_reducible refine' i_seq ?_ | ((with_reducible apply i_frz); (exact rfl); (first | exact nt_l | exact nt_d)) | ((with_reducible apply i_asV); (exact rfl)) | ((with_reducible apply i_asO); (exact rfl); (first | exact nt_l | exact nt_d)) | with_reducible refine' i_op2 ?_ | with_reducible refine' i_acons ?_ | with_reducible refine' i_anil ?_ | ((with_reducible apply i_var); exact rfl) | with_reducible refine' i_c ?_
  | with_reducible refine' i_asg ?_ | with_reducible refine' i_par ?_ | with_reducible refine' i_par2 ?_ | with_reducible refine' i_call ?_ | with_reducible refine' i_blt ?_ | with_reducible refine' i_op1 ?_ | with_reducible refine' i_tup ?_ | with_reducible refine' i_list ?_
  | ((with_reducible apply i_ex); walk_at "op") | ((with_reducible apply i_exk); walk_at "op")
  | with_reducible refine' i_val ?_ | with_reducible refine' i_exb ?_ | with_reducible refine' i_if ?_ | with_reducible refine' i_ret ?_ | with_reducible refine' i_nil ?_
  | with_reducible refine' i_T ?_ | with_reducible refine' i_F ?_ | with_reducible refine' i_tand ?_ | with_reducible refine' i_tor ?_ | with_reducible refine' i_tnot ?_ | with_reducible refine' i_yes ?_
  | with_reducible refine' i_and ?_ | with_reducible refine' i_or ?_ | with_reducible refine' i_not ?_ | with_reducible refine' i_ife ?_ | with_reducible refine' i_chain ?_
  | with_reducible refine' i_comp ?_ | with_reducible refine' i_iseq ?_ | with_reducible refine' i_irg1 ?_ | with_reducible refine' i_irg2 ?_ | with_reducible refine' i_izip ?_ | with_reducible refine' i_lstZ ?_ | with_reducible refine' i_lzT ?_ | with_reducible refine' i_lzL ?_ | with_reducible refine' i_disp1 ?_ | with_reducible refine' i_keyI ?_ | with_reducible refine' i_zipT ?_ | with_reducible refine' i_zipL ?_ | with_reducible refine' i_ienum ?_ | ((with_reducible apply i_enum); exact rfl) | with_reducible refine' i_irev ?_
  | with_reducible refine' i_for ?_ | with_reducible refine' i_lstrg ?_ | with_reducible refine' i_asgG ?_ | with_reducible refine' i_asgP ?_ | with_reducible refine' i_expr ?_ | with_reducible refine' i_retN ?_ | with_reducible refine' i_brk ?_ | with_reducible refine' i_cnt ?_
  | with_reducible refine' i_on ?_ | with_reducible refine' i_os ?_ | with_reducible refine' i_sl ?_ | ((with_reducible apply i_exl); exact rfl)
  | ((with_reducible refine' i_rg1 ?_ ?_); (constructor <;> omega)) | ((with_reducible refine' i_rg2 ?_ ?_); (refine ⟨?_, ?_, ?_, ?_⟩ <;> omega))
  | with_reducible refine' i_exi ?_
  | (with_reducible refine' i_len (Nat.le_of_ble_eq_true rfl) ?_)
  | ((with_reducible apply i_g); exact rfl) | ((with_reducible refine' i_plix ?_ ?_); exact rfl) | with_reducible refine' i_plset ?_ | with_reducible refine' i_np ?_
  | with_reducible refine' Lib.i_xt ?_ | with_reducible refine' Lib.i_idxX ?_ | with_reducible refine' i_idxL ?_ | with_reducible refine' i_idl ?_ | with_reducible refine' i_idx ?_
  | ((with_reducible apply i_mut1); (exact rfl); walk_at "mut")
  | ((with_reducible apply Lib.i_keysT); exact rfl) | (with_reducible refine' Lib.i_dputT ?_) | ((with_reducible apply Lib.i_dputT0); exact rfl) | ((with_reducible apply Lib.i_dputT1); (exact rfl); omega)
  | (with_reducible refine' Lib.i_dput ?_) | ((with_reducible apply Lib.i_dput0); exact rfl) | ((with_reducible apply Lib.i_dput1); (exact rfl); omega)
  | ((with_reducible refine' i_dT ?_ ?_); walk_at "cond") | ((with_reducible refine' i_dF ?_ ?_); walk_at "cond") | ((with_reducible refine' i_ndT ?_ ?_); walk_at "cond") | ((with_reducible refine' i_ndF ?_ ?_); walk_at "cond")
  | ((with_reducible refine' i_bT ?_ ?_); (first | with_reducible assumption | exact rfl)) | ((with_reducible refine' i_bF ?_ ?_); (first | with_reducible assumption | exact rfl))
  | ((with_reducible apply i_setixm); (exact rfl); omega; omega) | (with_reducible refine' i_setix ?_) | ((with_reducible apply i_setix0); exact rfl) | ((with_reducible apply i_mut); exact rfl))
local macro_rules | `(tactic| walk_at "run") => `(tactic| (repeat (walk_at "s")); try walk_at "env")
local macro_rules | `(tactic| walk_at "start") => `(tactic| simp only [startE, List.map_cons, List.map_nil, List.length_cons, List.length_nil, Nat.reduceAdd, Nat.reduceSub, Nat.zero_add, List.replicate_succ, List.replicate_zero, List.cons_append, List.nil_append])
local macro_rules | `(tactic| walk_at "len") => `(tactic| first | omega | (simp only [List.length_map, List.length_append, List.length_cons, List.length_nil]; omega) | (refine Nat.le_trans ?_ (Nat.le_refl _); have := List.length_filter_le; simp_all; done))
local macro_rules | `(tactic| walk_at "opl") => `(tactic| first | ((with_reducible refine' addD_lm ?_); walk_at "len") | ((with_reducible refine' addD_tm ?_); walk_at "len") | ((with_reducible refine' addLD_lm ?_); walk_at "len"))
/-- a comprehension: of what is walked itself, of ints, pairs, truths -/
local macro_rules | `(tactic| walk_at "comp") => `(tactic| first
  | (refine comp_fil ?_ (fun x hx => ?_) ?_; rotate_left 1; focus ((try have hx1 := Fact.use (by assumption) hx); (try have hx2 := mem_ints.mp hx); (try dsimp only at hx1); refine ⟨_, rfl, fun R hR => ?_, fun hp R hR => ?_, rfl⟩ <;> (repeat (walk_at "s")) <;> exact hR))
  | (refine comp_all (en2 := PySem.PyData.int) ?_ (fun x hx => ?_) ?_; rotate_left 1; focus ((try have hx1 := Fact.use (by assumption) hx); (try have hx2 := mem_ints.mp hx); (try dsimp only at hx1); refine ⟨_, rfl, fun R hR => ?_, rfl⟩ <;> (repeat (walk_at "s")) <;> exact hR))
  | (refine comp_all (en2 := PySem.PyData.bool) ?_ (fun x hx => ?_) ?_; rotate_left 1; focus ((try have hx1 := Fact.use (by assumption) hx); (try have hx2 := mem_ints.mp hx); (try dsimp only at hx1); refine ⟨_, rfl, fun R hR => ?_, rfl⟩ <;> (repeat (walk_at "s")) <;> exact hR))
  | (refine comp_all (en2 := dP) ?_ (fun x hx => ?_) ?_; rotate_left 1; focus ((try have hx1 := Fact.use (by assumption) hx); (try have hx2 := mem_ints.mp hx); (try dsimp only at hx1); refine ⟨_, rfl, fun R hR => ?_, rfl⟩ <;> (repeat (walk_at "s")) <;> exact hR))
  | (refine comp_el (en2 := PySem.PyData.int) ?_ ?_ (fun x hx => ?_) ?_; rotate_left 2; focus ((try have hx1 := Fact.use (by assumption) hx); (try have hx2 := mem_ints.mp hx); (try dsimp only at hx1); refine ⟨_, rfl, fun R hR => ?_, fun hp R hR => ?_, rfl⟩ <;> (repeat (walk_at "s")) <;> exact hR))
  | (refine comp_el (en2 := dP) ?_ ?_ (fun x hx => ?_) ?_; rotate_left 2; focus ((try have hx1 := Fact.use (by assumption) hx); (try have hx2 := mem_ints.mp hx); (try dsimp only at hx1); refine ⟨_, rfl, fun R hR => ?_, fun hp R hR => ?_, rfl⟩ <;> (repeat (walk_at "s")) <;> exact hR))
  | (refine comp_el (en2 := PySem.PyData.bool) ?_ ?_ (fun x hx => ?_) ?_; rotate_left 2; focus ((try have hx1 := Fact.use (by assumption) hx); (try have hx2 := mem_ints.mp hx); (try dsimp only at hx1); refine ⟨_, rfl, fun R hR => ?_, fun hp R hR => ?_, rfl⟩ <;> (repeat (walk_at "s")) <;> exact hR))
  | (refine comp_allD (en2 := PySem.PyData.int) ?_ (fun x hx => ?_) ?_; rotate_left 1; focus ((try have hx1 := Fact.use (by assumption) hx); (try dsimp only at hx1); refine ⟨_, rfl, fun R hR => ?_, rfl⟩ <;> (repeat (walk_at "s")) <;> exact hR))
  | (refine comp_allD (en2 := PySem.PyData.bool) ?_ (fun x hx => ?_) ?_; rotate_left 1; focus ((try have hx1 := Fact.use (by assumption) hx); (try dsimp only at hx1); refine ⟨_, rfl, fun R hR => ?_, rfl⟩ <;> (repeat (walk_at "s")) <;> exact hR)))
local macro_rules | `(tactic| walk_at "runc") => `(tactic| (repeat (first | walk_at "s" | walk_at "comp")); try walk_at "env")
/-- as run, but stops ahead of an if -/
local macro_rules | `(tactic| walk_at "runI") => `(tactic| (repeat ((fail_if_success (with_reducible refine' i_if ?_)); walk_at "s")); try walk_at "env")
open PySem
namespace Lib
theorem way_add {ls : Ar} {b e : Int} {x y : Int} : Way (ls ++ [(b, e)]) x y ↔ Way ls x y ∨ (Way ls x b ∧ Way ls e y) := by
  constructor
  · intro h
    induction h with
    | nil => exact .inl .nil
    | snoc _ a ih =>
      rcases List.mem_append.mp a with a | a
      · rcases ih with ih | ⟨h1, h2⟩
        · exact .inl (.snoc ih a)
        · exact .inr ⟨h1, .snoc h2 a⟩
      · simp at a; obtain ⟨rfl, rfl⟩ := a
        rcases ih with ih | ⟨h1, h2⟩
        · exact .inr ⟨ih, .nil⟩
        · exact .inr ⟨h1, .nil⟩
  · have up : ∀ {a c}, Way ls a c → Way (ls ++ [(b, e)]) a c := fun h => h.more fun t ht => List.mem_append_left _ ht
    rintro (h | ⟨h1, h2⟩)
    · exact up h
    · exact (Way.snoc (up h1) (List.mem_append_right _ (by simp))).trans (up h2)
theorem acyc_add {ls : Ar} {b e : Int} : Acyc (ls ++ [(b, e)]) ↔ Acyc ls ∧ ¬ Way ls e b := by
  constructor
  · intro h
    refine ⟨h.sub fun t ht => List.mem_append_left _ ht, fun g => ?_⟩
    exact h.noway (a := e) (b := b) (List.mem_append_right _ (by simp)) (g.more fun t ht => List.mem_append_left _ ht)
  · rintro ⟨h, n⟩
    exact (h.add n).sub fun t ht => by
      rcases List.mem_append.mp ht with c | c
      · exact List.mem_cons_of_mem _ c
      · simp at c; subst c; exact List.mem_cons_self
theorem arw_snoc {n : Int} {ts : List (Int × Int)} {t : Int × Int} {p : List Int} {x : Int} (h : p.length = ts.length) : arw ⟨n, ts ++ [t]⟩ (p ++ [x]) = arw ⟨n, ts⟩ p ++ [if x = 1 then t else (t.2, t.1)] := by
  unfold arw
  rw [List.zipWith_append h.symm]; rfl
theorem isP_snoc {n : Int} {ts : List (Int × Int)} {t : Int × Int} {q : List Int} : isP ⟨n, ts ++ [t]⟩ q ↔ ∃ p x, q = p ++ [x] ∧ isP ⟨n, ts⟩ p ∧ (x = 0 ∨ x = 1) := by
  constructor
  · rintro ⟨h1, h2⟩
    have hne : q ≠ [] := fun c => by subst c; simp at h1
    refine ⟨q.dropLast, q.getLast hne, (List.dropLast_concat_getLast hne).symm, ⟨?_, fun x hx => h2 x (List.dropLast_subset _ hx)⟩, h2 _ (List.getLast_mem hne)⟩
    have h1 : q.length = (ts ++ [t]).length := h1
    rw [List.length_append, List.length_singleton] at h1
    show q.dropLast.length = ts.length
    rw [List.length_dropLast]; omega
  · rintro ⟨p, x, rfl, ⟨h1, h2⟩, h3⟩
    refine ⟨?_, fun y hy => ?_⟩
    · have h1 : p.length = ts.length := h1
      show (p ++ [x]).length = (ts ++ [t]).length
      simp [h1]
    · rcases List.mem_append.mp hy with hy | hy
      · exact h2 y hy
      · simp at hy; subst hy; exact h3
structure AF (n : Int) (ts : List (Int × Int)) (L : List PR) : Prop where
  mem : ∀ p, p ∈ L.map Prod.fst ↔ isP ⟨n, ts⟩ p ∧ Acyc (arw ⟨n, ts⟩ p)
  nd : (L.map Prod.fst).Nodup
  rf : ∀ z ∈ L, (z.2.length : Int) = n ∧ (∀ x ∈ z.2, 0 ≤ x) ∧ ∀ x y, 0 ≤ x → x < n → 0 ≤ y → y < n → (tb (gI z.2 x) y = true ↔ x ≠ y ∧ Way (arw ⟨n, ts⟩ z.1) x y)
def growA (n : Int) (ts : List (Int × Int)) : List PR := ts.foldl (fun L t => growF L t.1 t.2) [([], List.replicate n.toNat 0)]
theorem way_nil {x y : Int} (h : Way [] x y) : x = y := by
  induction h with
  | nil => rfl
  | snoc _ a _ => simp at a
theorem AF.start {n : Int} (n0 : 0 ≤ n) : AF n [] [([], List.replicate n.toNat 0)] := by
  refine ⟨fun p => ?_, by simp, fun z hz => ?_⟩
  · simp only [List.map_cons, List.map_nil, List.mem_singleton]
    constructor
    · rintro rfl
      exact ⟨⟨rfl, by simp⟩, ⟨fun _ => 0, by intro t ht; simp [arw] at ht⟩⟩
    · rintro ⟨⟨h1, _⟩, _⟩
      exact List.length_eq_zero_iff.mp h1
  · simp only [List.mem_singleton] at hz
    subst hz
    refine ⟨by simp; omega, fun x hx => by rw [List.eq_of_mem_replicate hx]; exact Int.le_refl _, fun x y h0 h1 h2 h3 => ?_⟩
    have e : gI (List.replicate n.toNat 0) x = 0 := by
      unfold gI
      rw [getElem!_pos _ _ (by rw [List.length_replicate]; omega), List.getElem_replicate]
    simp only [e, tb_zero]
    constructor
    · intro c; cases c
    · rintro ⟨ne, h⟩
      exact absurd (way_nil (show Way [] x y by simpa [arw] using h)) ne
theorem waysT_mem {a b : Int} {y : Int × Int × Int} (h : y ∈ waysT a b) : (y.1 = 0 ∨ y.1 = 1) ∧ (if y.1 = 1 then (a, b) else (b, a)) = (y.2.1, y.2.2) ∧ ((y.2.1 = a ∧ y.2.2 = b) ∨ (y.2.1 = b ∧ y.2.2 = a)) := by
  simp only [waysT, List.mem_cons, List.not_mem_nil, or_false] at h
  rcases h with rfl | rfl
  · exact ⟨.inl rfl, rfl, .inr ⟨rfl, rfl⟩⟩
  · exact ⟨.inr rfl, rfl, .inl ⟨rfl, rfl⟩⟩
theorem grow_mem {L : List PR} {a b : Int} {z' : PR} : z' ∈ growF L a b ↔ ∃ z ∈ L, ∃ y ∈ waysT a b, tb (gI z.2 y.2.2) y.2.1 = false ∧ z' = (z.1 ++ [y.1], ledF z.2 y.2.1 y.2.2) := by
  unfold growF
  rw [List.mem_flatMap]
  constructor
  · rintro ⟨z, hz, h⟩
    obtain ⟨y, hy, rfl⟩ := List.mem_map.mp h
    obtain ⟨h1, h2⟩ := List.mem_filter.mp hy
    exact ⟨z, hz, y, h1, by simpa using h2, rfl⟩
  · rintro ⟨z, hz, y, hy, h, rfl⟩
    exact ⟨z, hz, List.mem_map.mpr ⟨y, List.mem_filter.mpr ⟨hy, by simpa using h⟩, rfl⟩⟩
theorem AF.step {n : Int} {ts : List (Int × Int)} {L : List PR} (h : AF n ts L) {t : Int × Int} (ha : 0 ≤ t.1 ∧ t.1 < n) (hb : 0 ≤ t.2 ∧ t.2 < n) (ne : t.1 ≠ t.2) : AF n (ts ++ [t]) (growF L t.1 t.2) := by
  have lenp : ∀ z ∈ L, z.1.length = ts.length := fun z hz => ((h.mem z.1).mp (List.mem_map.mpr ⟨z, hz, rfl⟩)).1.1
  have arwz : ∀ z ∈ L, ∀ y ∈ waysT t.1 t.2, arw ⟨n, ts ++ [t]⟩ (z.1 ++ [y.1]) = arw ⟨n, ts⟩ z.1 ++ [(y.2.1, y.2.2)] := fun z hz y hy => by
    rw [arw_snoc (lenp z hz), ← (waysT_mem hy).2.1]
  have key : ∀ z ∈ L, ∀ y ∈ waysT t.1 t.2, (tb (gI z.2 y.2.2) y.2.1 = false ↔ ¬ Way (arw ⟨n, ts⟩ z.1) y.2.2 y.2.1) := fun z hz y hy => by
    obtain ⟨_, _, h3⟩ := waysT_mem hy
    have hr : (0 ≤ y.2.1 ∧ y.2.1 < n) ∧ (0 ≤ y.2.2 ∧ y.2.2 < n) ∧ y.2.2 ≠ y.2.1 := by
      rcases h3 with ⟨e1, e2⟩ | ⟨e1, e2⟩ <;> rw [e1, e2]
      · exact ⟨ha, hb, Ne.symm ne⟩
      · exact ⟨hb, ha, ne⟩
    have := (h.rf z hz).2.2 y.2.2 y.2.1 hr.2.1.1 hr.2.1.2 hr.1.1 hr.1.2
    rw [← Bool.not_eq_true, this]
    constructor
    · intro c d; exact c ⟨hr.2.2, d⟩
    · rintro c ⟨_, d⟩; exact c d
  refine ⟨fun p => ?_, ?_, fun z' hz' => ?_⟩
  · rw [isP_snoc, List.mem_map]
    constructor
    · rintro ⟨z', hz', rfl⟩
      obtain ⟨z, hz, y, hy, hc, rfl⟩ := grow_mem.mp hz'
      obtain ⟨h1, h2⟩ := (h.mem z.1).mp (List.mem_map.mpr ⟨z, hz, rfl⟩)
      refine ⟨⟨z.1, y.1, rfl, h1, (waysT_mem hy).1⟩, ?_⟩
      simp only
      rw [arwz z hz y hy]
      exact acyc_add.mpr ⟨h2, (key z hz y hy).mp hc⟩
    · rintro ⟨⟨q, x, rfl, hq, hx⟩, ac⟩
      have hqa : Acyc (arw ⟨n, ts⟩ q) := ac.sub fun s hs => by rw [arw_snoc hq.1]; exact List.mem_append_left _ hs
      obtain ⟨z, hz, rfl⟩ := List.mem_map.mp ((h.mem q).mpr ⟨hq, hqa⟩)
      obtain ⟨y, hy, e⟩ : ∃ y ∈ waysT t.1 t.2, y.1 = x := by
        rcases hx with rfl | rfl
        · exact ⟨(0, t.2, t.1), by simp [waysT], rfl⟩
        · exact ⟨(1, t.1, t.2), by simp [waysT], rfl⟩
      subst e
      rw [arwz z hz y hy] at ac
      exact ⟨_, grow_mem.mpr ⟨z, hz, y, hy, (key z hz y hy).mpr (acyc_add.mp ac).2, rfl⟩, rfl⟩
  · have e : (growF L t.1 t.2).map Prod.fst = L.flatMap fun z => ((waysT t.1 t.2).filter fun y => !tb (gI z.2 y.2.2) y.2.1).map fun y => z.1 ++ [y.1] := by
      unfold growF
      rw [List.map_flatMap]
      congr 1
      funext z
      rw [List.map_map]; rfl
    rw [e]
    unfold List.Nodup
    rw [List.pairwise_flatMap]
    constructor
    · intro z hz
      rw [List.pairwise_map]
      refine List.Pairwise.filter _ ?_
      simp [waysT]
    · have := h.nd
      unfold List.Nodup at this
      rw [List.pairwise_map] at this
      refine this.imp ?_
      intro z z2 hne u hu v hv e
      obtain ⟨y, _, rfl⟩ := List.mem_map.mp hu
      obtain ⟨y2, _, rfl⟩ := List.mem_map.mp hv
      exact hne (List.append_inj' e rfl).1
  · obtain ⟨z, hz, y, hy, hc, rfl⟩ := grow_mem.mp hz'
    obtain ⟨h1, h2, h3⟩ := h.rf z hz
    obtain ⟨_, _, h4⟩ := waysT_mem hy
    have hr : (0 ≤ y.2.1 ∧ y.2.1 < n) ∧ (0 ≤ y.2.2 ∧ y.2.2 < n) := by
      rcases h4 with ⟨e1, e2⟩ | ⟨e1, e2⟩ <;> rw [e1, e2]
      · exact ⟨ha, hb⟩
      · exact ⟨hb, ha⟩
    have nw := (key z hz y hy).mp hc
    refine ⟨by simp only [led_len]; exact h1, fun x hx => led_nn h2 hr.2.1 (by omega) x hx, fun u v u0 u1 v0 v1 => ?_⟩
    simp only
    rw [arwz z hz y hy, led_gI u0 (by omega), way_add]
    have g0 := gI_nn h2 u0 (by omega)
    have m0 := more_nn h2 hr.2.1 (by omega)
    have e0 := gI_nn h2 hr.2.1 (by omega)
    have f1 := h3 u v u0 u1 v0 v1
    have f2 := h3 u y.2.1 u0 u1 hr.1.1 hr.1.2
    have f3 := h3 y.2.2 v hr.2.1 hr.2.2 v0 v1
    have wub : (u = y.2.1 ∨ tb (gI z.2 u) y.2.1 = true) ↔ Way (arw ⟨n, ts⟩ z.1) u y.2.1 := by
      rw [f2]
      constructor
      · rintro (rfl | ⟨_, c⟩)
        · exact .nil
        · exact c
      · intro c
        by_cases e : u = y.2.1
        · exact .inl e
        · exact .inr ⟨e, c⟩
    have mv : tb (moreF z.2 y.2.2) v = true ↔ Way (arw ⟨n, ts⟩ z.1) y.2.2 v := by
      unfold moreF
      rw [tb_or e0 (pow_nn _), tb_pow hr.2.1 v0, Bool.or_eq_true, decide_eq_true_eq, f3]
      constructor
      · rintro (⟨_, c⟩ | rfl)
        · exact c
        · exact .nil
      · intro c
        by_cases e : v = y.2.2
        · exact .inr e
        · exact .inl ⟨Ne.symm e, c⟩
    by_cases c : u = y.2.1 ∨ tb (gI z.2 u) y.2.1 = true
    · rw [if_pos c, tb_or g0 m0, Bool.or_eq_true, f1, mv]
      have wc := wub.mp c
      constructor
      · rintro (⟨hne, hw⟩ | hw)
        · exact ⟨hne, .inl hw⟩
        · refine ⟨fun e => ?_, .inr ⟨wc, hw⟩⟩
          subst e
          exact nw (hw.trans wc)
      · rintro ⟨hne, hw | ⟨_, hw⟩⟩
        · exact .inl ⟨hne, hw⟩
        · exact .inr hw
    · rw [if_neg c, f1]
      have wc : ¬ Way (arw ⟨n, ts⟩ z.1) u y.2.1 := fun d => c (wub.mpr d)
      constructor
      · rintro ⟨hne, hw⟩; exact ⟨hne, .inl hw⟩
      · rintro ⟨hne, hw | ⟨d, _⟩⟩
        · exact ⟨hne, hw⟩
        · exact absurd d wc
theorem growA_af {n : Int} (n0 : 0 ≤ n) : ∀ {ts : List (Int × Int)}, (∀ t ∈ ts, (0 ≤ t.1 ∧ t.1 < n) ∧ (0 ≤ t.2 ∧ t.2 < n) ∧ t.1 ≠ t.2) → AF n ts (growA n ts) := by
  intro ts
  have key : ∀ (post pre : List (Int × Int)) (L : List PR), (∀ t ∈ post, (0 ≤ t.1 ∧ t.1 < n) ∧ (0 ≤ t.2 ∧ t.2 < n) ∧ t.1 ≠ t.2) → AF n pre L → AF n (pre ++ post) (post.foldl (fun L t => growF L t.1 t.2) L) := by
    intro post
    induction post with
    | nil => intro pre L _ h; rw [List.append_nil]; exact h
    | cons t post ih =>
      intro pre L hr h
      have ht := hr t (by simp)
      have := ih (pre ++ [t]) (growF L t.1 t.2) (fun s hs => hr s (by simp [hs])) (h.step ht.1 ht.2.1 ht.2.2)
      rw [List.append_assoc] at this
      exact this
  intro hr
  exact key ts [] _ hr (AF.start n0)
theorem ties_rg {w : Web} (o : w.ok) : ∀ t ∈ w.ts, (0 ≤ t.1 ∧ t.1 < w.n) ∧ (0 ≤ t.2 ∧ t.2 < w.n) ∧ t.1 ≠ t.2 := fun t ht => by
  have := o.rg t ht
  omega
/-- all falls, sorted -/
def fallsL (w : Web) : List (List Int) := tsort ((growA w.n w.ts).map Prod.fst)
theorem fallsL_mem {w : Web} (o : w.ok) {p : List Int} : p ∈ fallsL w ↔ isP w p ∧ Acyc (arw w p) := by
  have n1 := o.n1
  unfold fallsL
  rw [(tsort_perm _).mem_iff]
  exact (growA_af (by omega) (ties_rg o)).mem p
theorem fallsL_nd {w : Web} (o : w.ok) : (fallsL w).Nodup := by
  have n1 := o.n1
  exact (tsort_perm _).nodup_iff.mpr (growA_af (by omega) (ties_rg o)).nd
theorem fallsL_srt (w : Web) : (fallsL w).Pairwise leT := tsort_sorted _
theorem falls_one {w : Web} (o : w.ok) {L : List (List Int)} (nd : L.Nodup) (hm : ∀ p, p ∈ L ↔ isP w p ∧ Acyc (arw w p)) : tsort L = fallsL w := by
  refine tsort_one ?_ (tsort_sorted _) (fallsL_srt w)
  refine (tsort_perm L).trans ?_
  refine (List.perm_ext_iff_of_nodup nd (fallsL_nd o)).mpr fun p => ?_
  rw [hm, fallsL_mem o]
theorem tupsD_TI : ∀ L : List (List Int), tupsD (L.map TI) = some L
  | [] => rfl
  | l :: L => by
    rw [List.map_cons]
    show (intsD (l.map .int)).bind _ = _
    rw [intsD_map, Option.bind_some, tupsD_TI L]; rfl
theorem sortedTs_TI {L : List (List Int)} (h : tupsOk L = true) : sortedTsD [.list (L.map TI)] = some (.list ((tsort L).map TI)) := by
  simp only [sortedTsD, tupsD_TI, Option.bind_some, h, if_true]
theorem tupsOk_isP {w : Web} {L : List (List Int)} (nd : L.Nodup) (h : ∀ p ∈ L, isP w p) : tupsOk L = true := by
  unfold tupsOk
  rw [Bool.or_eq_true, decide_eq_true_eq, List.all_eq_true]
  by_cases c : w.ts = []
  · left
    have hl : ∀ p ∈ L, p ∈ [([] : List Int)] := fun p hp => by
      have := (h p hp).1
      rw [c] at this
      rw [List.length_eq_zero_iff.mp this]; simp
    have := nodup_leG nd hl
    simp at this; omega
  · right
    intro p hp
    have := (h p hp).1
    cases p with
    | nil => exact absurd (List.length_eq_zero_iff.mp this.symm) c
    | cons _ _ => rfl
theorem growA_snoc (n : Int) (pre : List (Int × Int)) (t : Int × Int) : growA n (pre ++ [t]) = growF (growA n pre) t.1 t.2 := by
  unfold growA
  rw [List.foldl_append]; rfl
/-- all_falls: slots 0 web:r, 1 found:v, 2 a:v, 3 b:v, 4 pointing:v, 5 reach:v; modes ['rd']; answer fz -/
def wb_all_falls (S_grown : FS) : WS :=
  (wSeq (wAsg 1 (wList (waCons (wTup (waCons (wTup waNil) (waCons (wOp2 repTD (wTup (waCons (wC (.int 0)) waNil)) (wOp2 ixD (wVar 0) (wC (.int 0)))) waNil))) waNil)))
    (wSeq (wFor (wiSeq (wOp2 ixD (wVar 0) (wC (.int 1)))) (gT [(gN 2), (gN 3)]) (wSeq (wAsg 1 (wCall S_grown (waCons (wVar 1) (waCons (wVar 2) (waCons (wVar 3) waNil)))))
    (wIf (tVal (wOp2 gtD (wBlt lenD (waCons (wVar 1) waNil)) (wC (.int 300)))) wNever wNil)))
    (wRet (wBlt sortedTsD (waCons (wComp (wiSeq (wVar 1)) (gT [(gN 4), (gN 5)]) [4, 5] G7.tYes (wVar 4)) waNil)))))
def S_all_falls : FS := fun ds Post => ∃ w, ds = [dW w] ∧ w.ok ∧ (∀ pre post, w.ts = pre ++ post → (growA w.n pre).length ≤ 300) ∧ Post (.list ((fallsL w).map TI))
theorem repTD_0 {n : Int} (h0 : 1 ≤ n) (h1 : n ≤ 100) : repTD (.tuple [.int 0]) (.int n) = some (TI (List.replicate n.toNat 0)) := by
  have : ∀ k : Nat, (List.replicate k [PyData.int 0]).flatten = (List.replicate k (0 : Int)).map .int := by
    intro k
    induction k with
    | zero => rfl
    | succ k ih => rw [List.replicate_succ, List.flatten_cons, ih]; rfl
  simp only [repTD, List.length_cons, List.length_nil]
  rw [if_pos ⟨by omega, by simp, by omega, by omega⟩, this]
theorem m_all_falls {rk : RK} : ∀ ds Post, S_all_falls ds Post → wb_all_falls S_grown { nx := fun _ => Post .none ∧ rk = .fz, rt := fun d _ => Post d } (startE 6 ds) := by
  rintro ds Post ⟨w, rfl, o, hs, hP⟩
  have n1 := o.n1
  have n9 := o.n9
  have h20 := o.len
  unfold wb_all_falls
  walk_at "start"
  have hr0 : repTD (.tuple [.int 0]) (.int w.n) = some (TI (List.replicate w.n.toNat 0)) := repTD_0 (by omega) (by omega)
  walk_at "run"
  have hrt : ∀ t ∈ w.ts, (0 ≤ t.1 ∧ t.1 < w.n) ∧ (0 ≤ t.2 ∧ t.2 < w.n) ∧ t.1 ≠ t.2 := ties_rg o
  refine for_st (enc := dP) [1, 2, 3] (fun pre vs => ∃ (a b : Option D), vs = [some (.list ((growA w.n pre).map dPR)), a, b]) [_, _, _] rfl ⟨_, _, rfl⟩ ?_ ?_
  · rintro pre t post _ hL ⟨a, b, rfl⟩ R hR
    have haf : AF w.n pre (growA w.n pre) := growA_af (by omega) fun u hu => hrt u (by rw [hL]; simp [hu])
    have htt := hrt t (by rw [hL]; simp)
    have h300 := hs (pre ++ [t]) post (by rw [hL]; simp)
    have h301 := hs pre (t :: post) hL
    have hpl : pre.length < w.ts.length := by rw [hL]; simp
    walk_at "run"
    refine ⟨growA w.n pre, w.n, t.1, t.2, rfl, by omega, by omega, htt.1, htt.2.1, fun z hz => ?_, ?_⟩
    · obtain ⟨h1, h2, _⟩ := haf.rf z hz
      have h3 := ((haf.mem z.1).mp (List.mem_map.mpr ⟨z, hz, rfl⟩)).1.1
      have h3 : z.1.length = pre.length := h3
      exact ⟨by omega, h1, h2⟩
    rw [← growA_snoc]
    walk_at "run"
    exact hR [_, _, _] ⟨_, _, rfl⟩
  · rintro _ ⟨a, b, rfl⟩
    have haf : AF w.n w.ts (growA w.n w.ts) := growA_af (by omega) hrt
    walk_at "run"
    refine comp_all (en2 := TI) (fun z => z.1) (fun z hz => ⟨_, rfl, fun R hR => ?_, rfl⟩) ?_
    · walk_at "run"
      exact hR
    walk_at "run"
    refine i_ex (sortedTs_TI (tupsOk_isP (w := w) haf.nd fun p hp => ((haf.mem p).mp hp).1)) ?_
    exact hP
end Lib
end G7
namespace G7
namespace Lib
open PySem
section
variable {α β : Type} [BEq β] [LawfulBEq β]
theorem lookG_mem {m : List (β × α)} {k : β} {v : α} (h : m.lookup k = some v) : (k, v) ∈ m := by
  induction m with
  | nil => simp at h
  | cons t m ih =>
    obtain ⟨a, b⟩ := t
    rw [List.lookup_cons] at h
    split at h
    · next e => cases h; simp at e; subst e; exact List.mem_cons_self
    · exact List.mem_cons_of_mem _ (ih h)
theorem lookG_none {m : List (β × α)} {k : β} : m.lookup k = none ↔ k ∉ m.map Prod.fst := by
  induction m with
  | nil => simp
  | cons t m ih =>
    obtain ⟨a, b⟩ := t
    rw [List.lookup_cons, List.map_cons, List.mem_cons]
    split
    · next e => simp at e; subst e; simp
    · next e =>
      have : k ≠ a := by simpa using e
      rw [ih]; simp [this]
theorem lookG_nd {m : List (β × α)} (nd : (m.map Prod.fst).Nodup) {k : β} {v : α} (h : (k, v) ∈ m) : m.lookup k = some v := by
  cases q : m.lookup k with
  | none => exact absurd (List.mem_map.mpr ⟨_, h, rfl⟩) (lookG_none.mp q)
  | some u =>
    have h2 := lookG_mem q
    have : u = v := by
      induction m with
      | nil => simp at h
      | cons t m ih =>
        rw [List.map_cons, List.nodup_cons] at nd
        rcases List.mem_cons.mp h with rfl | h3 <;> rcases List.mem_cons.mp h2 with e | h4
        · simpa using congrArg Prod.snd e
        · exact absurd (List.mem_map.mpr ⟨_, h4, rfl⟩) nd.1
        · exact absurd (List.mem_map.mpr ⟨_, h3, by rw [← e]⟩) nd.1
        · refine ih nd.2 h3 ?_ h4
          rw [List.lookup_cons] at q
          split at q
          · next e => simp at e; subst e; exact absurd (List.mem_map.mpr ⟨_, h3, rfl⟩) nd.1
          · exact q
    rw [this]
end
abbrev FM := List (List Int × Int)
structure BO (w : Web) (p0 : List Int) (m : FM) (i : Nat) : Prop where
  nd : (m.map Prod.fst).Nodup
  st : (p0, 0) ∈ m
  ok : ∀ q k, (q, k) ∈ m → ∃ row, turnsGo w p0 row = some q ∧ (row.length : Int) = k
  mo : m.Pairwise fun a b => a.2 ≤ b.2
  la : ∀ h, m[i]? = some h → ∀ t ∈ m, t.2 ≤ h.2 + 1
  cl : ∀ j < i, ∀ h, m[j]? = some h → ∀ v ∈ sprF w h.1, ∃ k, (abtF w h.1 v, k) ∈ m ∧ k ≤ h.2 + 1
structure BN (w : Web) (p0 : List Int) (m0 : FM) (h : List Int × Int) (pre : List (List Int)) (m : FM) : Prop where
  nd : (m.map Prod.fst).Nodup
  ok : ∀ q k, (q, k) ∈ m → ∃ row, turnsGo w p0 row = some q ∧ (row.length : Int) = k
  ex : ∃ r, m = m0 ++ r ∧ ∀ t ∈ r, t.2 = h.2 + 1
  cl : ∀ t ∈ pre, ∃ k, (t, k) ∈ m ∧ k ≤ h.2 + 1
variable {w : Web} {p0 : List Int} {m m0 : FM} {i : Nat} {h : List Int × Int} {pre : List (List Int)}
theorem BO.start : BO w p0 [(p0, 0)] 0 :=
  ⟨by simp, by simp, fun q k hk => by simp at hk; obtain ⟨rfl, rfl⟩ := hk; exact ⟨[], rfl, rfl⟩, by simp, fun h hh t ht => by simp at hh ht; subst hh ht; simp, fun j hj => by omega⟩
theorem BO.falls (o : w.ok) (hp : isP w p0) (ap : Acyc (arw w p0)) (b : BO w p0 m i) : ∀ q ∈ m.map Prod.fst, isP w q ∧ Acyc (arw w q) ∧ Kin w p0 q := fun q hq => by
  obtain ⟨⟨q, k⟩, ht, rfl⟩ := List.mem_map.mp hq
  obtain ⟨row, hr, _⟩ := b.ok _ _ ht
  obtain ⟨a, c, d, _⟩ := go_fit o hp ap hr
  exact ⟨a, c, _, d⟩
theorem BO.in (b : BO w p0 m i) : BN w p0 m h [] m := ⟨b.nd, b.ok, ⟨[], by simp, by simp⟩, by simp⟩
theorem BN.falls (o : w.ok) (hp : isP w p0) (ap : Acyc (arw w p0)) (b : BN w p0 m0 h pre m) : ∀ q ∈ m.map Prod.fst, isP w q ∧ Acyc (arw w q) ∧ Kin w p0 q := fun q hq => by
  obtain ⟨⟨q, k⟩, ht, rfl⟩ := List.mem_map.mp hq
  obtain ⟨row, hr, _⟩ := b.ok _ _ ht
  obtain ⟨a, c, d, _⟩ := go_fit o hp ap hr
  exact ⟨a, c, _, d⟩
theorem BN.old (b0 : BO w p0 m0 i) (hh : m0[i]? = some h) (b : BN w p0 m0 h pre m) {t : List Int} {k : Int} (ht : (t, k) ∈ m) : BN w p0 m0 h (pre ++ [t]) m := by
  refine ⟨b.nd, b.ok, b.ex, fun s hs => ?_⟩
  rcases List.mem_append.mp hs with hs | hs
  · exact b.cl s hs
  · simp at hs; subst hs
    refine ⟨k, ht, ?_⟩
    obtain ⟨r, rfl, hr⟩ := b.ex
    rcases List.mem_append.mp ht with c | c
    · exact b0.la h hh _ c
    · have := hr _ c; simp only at this; omega
theorem BN.new (hm : h ∈ m0) (b : BN w p0 m0 h pre m) {v : Int} (hv : v ∈ sprF w h.1) (hn : abtF w h.1 v ∉ m.map Prod.fst) : BN w p0 m0 h (pre ++ [abtF w h.1 v]) (m ++ [(abtF w h.1 v, h.2 + 1)]) := by
  have hmm : h ∈ m := by obtain ⟨r, rfl, _⟩ := b.ex; exact List.mem_append_left _ hm
  refine ⟨?_, fun q k hq => ?_, ?_, fun s hs => ?_⟩
  · rw [List.map_append, List.nodup_append]
    exact ⟨b.nd, by simp, fun x hx y hy e => by simp at hy; subst hy; subst e; exact hn hx⟩
  · rcases List.mem_append.mp hq with hq | hq
    · exact b.ok q k hq
    · simp at hq; obtain ⟨rfl, rfl⟩ := hq
      obtain ⟨row, h1, h2⟩ := b.ok h.1 h.2 hmm
      refine ⟨row ++ [v], ?_, by rw [List.length_append, List.length_singleton]; omega⟩
      rw [turnsGo_app h1]
      unfold turnsGo
      rw [if_pos hv]; rfl
  · obtain ⟨r, e, hr⟩ := b.ex
    refine ⟨r ++ [(abtF w h.1 v, h.2 + 1)], by rw [e, List.append_assoc], fun t ht => ?_⟩
    rcases List.mem_append.mp ht with ht | ht
    · exact hr t ht
    · simp at ht; subst ht; rfl
  · rcases List.mem_append.mp hs with hs | hs
    · obtain ⟨k, h1, h2⟩ := b.cl s hs
      exact ⟨k, List.mem_append_left _ h1, h2⟩
    · simp at hs; subst hs
      exact ⟨h.2 + 1, List.mem_append_right _ (by simp), by omega⟩
theorem BN.out (b0 : BO w p0 m0 i) (hh : m0[i]? = some h) (b : BN w p0 m0 h ((sprF w h.1).map (abtF w h.1)) m) : BO w p0 m (i + 1) := by
  obtain ⟨r, rfl, hr⟩ := b.ex
  obtain ⟨hi, hg⟩ := List.getElem?_eq_some_iff.mp hh
  have le1 : ∀ t ∈ m0 ++ r, t.2 ≤ h.2 + 1 := fun t ht => by
    rcases List.mem_append.mp ht with c | c
    · exact b0.la h hh _ c
    · have := hr _ c; omega
  have mo : (m0 ++ r).Pairwise fun a b => a.2 ≤ b.2 := by
    rw [List.pairwise_append]
    refine ⟨b0.mo, ?_, fun x hx y hy => ?_⟩
    · refine List.pairwise_of_forall_mem_list fun x hx y hy => ?_
      rw [hr x hx, hr y hy]; exact Int.le_refl _
    · have := b0.la h hh x hx
      have := hr y hy
      omega
  refine ⟨b.nd, List.mem_append_left _ b0.st, b.ok, mo, fun g hg2 t ht => ?_, fun j hj g hg2 v hv => ?_⟩
  · obtain ⟨hi2, hg3⟩ := List.getElem?_eq_some_iff.mp hg2
    have := List.pairwise_iff_getElem.mp mo i (i + 1) (by rw [List.length_append]; omega) hi2 (by omega)
    rw [hg3, List.getElem_append_left hi, hg] at this
    have := le1 t ht
    omega
  · have hjl : j < m0.length := by omega
    rw [List.getElem?_append_left hjl] at hg2
    by_cases e : j = i
    · subst e
      rw [hh] at hg2; cases hg2
      exact b.cl _ (List.mem_map.mpr ⟨v, hv, rfl⟩)
    · obtain ⟨k, h1, h2⟩ := b0.cl j (by omega) g hg2 v hv
      exact ⟨k, List.mem_append_left _ h1, h2⟩
/-- all is closed -/
theorem BO.reach (b : BO w p0 m i) (hi : m.length ≤ i) : ∀ {row q q2 : List Int} {k : Int}, (q, k) ∈ m → turnsGo w q row = some q2 → ∃ k2, (q2, k2) ∈ m ∧ k2 ≤ k + row.length
  | [], q, q2, k, h, hr => by unfold turnsGo at hr; cases hr; exact ⟨k, h, by simp⟩
  | v :: row, q, q2, k, h, hr => by
    unfold turnsGo at hr
    split at hr
    · next c =>
      obtain ⟨j, hj, e⟩ := List.getElem_of_mem h
      obtain ⟨k1, h1, h2⟩ := b.cl j (by omega) (q, k) (by rw [List.getElem?_eq_getElem hj, e]) v c
      obtain ⟨k2, h3, h4⟩ := b.reach hi h1 hr
      refine ⟨k2, h3, ?_⟩
      rw [List.length_cons]
      simp only at h2
      omega
    · cases hr
theorem BO.least (o : w.ok) (hp : isP w p0) (ap : Acyc (arw w p0)) (b : BO w p0 m i) (hi : m.length ≤ i) {q row l : List Int} (hq : isP w q) (aq : Acyc (arw w q)) (hr : turnsGo w p0 row = some q) (hl : Norm w p0 q l) (he : (row.length : Int) = sumI l) : m.lookup q = some (row.length : Int) := by
  obtain ⟨k2, h1, h2⟩ := b.reach hi b.st hr
  obtain ⟨row2, h3, h4⟩ := b.ok q k2 h1
  have := norm_least o hp hq ap aq hl h3
  have e : k2 = row.length := by omega
  rw [← e]
  exact lookG_nd b.nd h1
end Lib
end G7

namespace G7
namespace Lib
open PySem
def lastI (r : List Int) : Int := r.getLast?.getD 0
/-- a way of ties, no place twice, its first place the least -/
structure Wy (w : Web) (r : List Int) : Prop where
  nd : r.Nodup
  rg : ∀ x ∈ r, 0 ≤ x ∧ x < w.n
  td : ∀ z ∈ r.zip r.tail, T w z.1 z.2
  ls : ∃ a s, r = a :: s ∧ ∀ x ∈ s, a ≤ x
def isR (w : Web) (r : List Int) : Prop := T w (lastI r) (gI r 0) ∧ 2 < r.length ∧ gI r 1 < lastI r
def wtN : Nat → Nat
  | 0 => 55986 | 1 => 9331 | 2 => 1555 | 3 => 259 | 4 => 43 | 5 => 7 | 6 => 1 | _ => 0
theorem Wy.len {w : Web} (h6 : w.n ≤ 6) {r : List Int} (h : Wy w r) : 1 ≤ r.length ∧ r.length ≤ 6 := by
  obtain ⟨a, s, e, _⟩ := h.ls
  have h1 := nodup_le (m := irng 0 w.n) h.nd fun x hx => mem_ints.mpr (h.rg x hx)
  rw [ints_len] at h1
  refine ⟨by rw [e]; simp, by omega⟩
theorem Wy.wt1 {w : Web} (h6 : w.n ≤ 6) {r : List Int} (h : Wy w r) : 1 ≤ wtN r.length := by
  have := h.len h6
  rcases (show r.length = 1 ∨ r.length = 2 ∨ r.length = 3 ∨ r.length = 4 ∨ r.length = 5 ∨ r.length = 6 by omega) with e | e | e | e | e | e <;> rw [e] <;> decide
theorem wt_step {k : Nat} (h1 : 1 ≤ k) (h6 : k ≤ 6) : 1 + 6 * wtN (k + 1) ≤ wtN k := by
  rcases (show k = 1 ∨ k = 2 ∨ k = 3 ∨ k = 4 ∨ k = 5 ∨ k = 6 by omega) with e | e | e | e | e | e <;> rw [e] <;> decide
abbrev wts (L : List (List Int)) : Nat := (L.map fun r => wtN r.length).sum
theorem wts_le {w : Web} (h6 : w.n ≤ 6) : ∀ {L : List (List Int)}, (∀ r ∈ L, Wy w r) → L.length ≤ wts L
  | [], _ => Nat.zero_le _
  | r :: L, h => by
    have := wts_le h6 (L := L) fun s hs => h s (List.mem_cons_of_mem _ hs)
    have := (h r List.mem_cons_self).wt1 h6
    simp only [wts, List.map_cons, List.sum_cons, List.length_cons] at *
    omega
theorem wts_same {k : Nat} : ∀ {L : List (List Int)}, (∀ r ∈ L, r.length = k) → wts L = L.length * wtN k
  | [], _ => by simp [wts]
  | r :: L, h => by
    have := wts_same (L := L) fun s hs => h s (List.mem_cons_of_mem _ hs)
    simp only [wts, List.map_cons, List.sum_cons, List.length_cons] at *
    rw [h r List.mem_cons_self, this, Nat.succ_mul]; omega
theorem wts_app (a b : List (List Int)) : wts (a ++ b) = wts a + wts b := by simp [wts]
theorem Wy.add {w : Web} {r : List Int} (h : Wy w r) {p : Int} (hp : p < w.n) (h0 : gI r 0 ≤ p) (ht : T w (lastI r) p) (hn : p ∉ r) : Wy w (r ++ [p]) := by
  obtain ⟨a, s, e, hs⟩ := h.ls
  have ha : gI r 0 = a := by rw [e]; rfl
  have hne : r ≠ [] := by rw [e]; simp
  have hlast : r.getLast? = some (lastI r) := by
    unfold lastI
    rw [List.getLast?_eq_some_getLast hne]; rfl
  have har := h.rg a (by rw [e]; simp)
  refine ⟨?_, fun x hx => ?_, fun z hz => ?_, ⟨a, s ++ [p], by rw [e]; rfl, fun x hx => ?_⟩⟩
  · rw [List.nodup_append]
    exact ⟨h.nd, by simp, fun x hx y hy c => by simp at hy; subst hy; subst c; exact hn hx⟩
  · rcases List.mem_append.mp hx with hx | hx
    · exact h.rg x hx
    · simp at hx; subst hx; omega
  · rw [zip_over hne, zip_tail hlast] at hz
    rcases List.mem_append.mp hz with hz | hz
    · exact h.td z hz
    · simp at hz; subst hz; exact ht
  · rcases List.mem_append.mp hx with hx | hx
    · exact hs x hx
    · simp at hx; subst hx; omega
/-- the ways looked at: those ahead of i are done -/
structure RI (w : Web) (ways found : List (List Int)) (i : Nat) : Prop where
  wy : ∀ r ∈ ways, Wy w r
  st : ∀ x, 0 ≤ x → x < w.n → [x] ∈ ways
  cl : ∀ j < i, ∀ r, ways[j]? = some r → ∀ p, gI r 0 ≤ p → p < w.n → T w (lastI r) p → p ∉ r → r ++ [p] ∈ ways
  fd : ∀ r, r ∈ found ↔ (∃ j < i, ways[j]? = some r) ∧ isR w r
  wt : i + wts (ways.drop i) ≤ 55986
structure RN (w : Web) (ways0 found0 : List (List Int)) (i : Nat) (r : List Int) (pre : List Int) (ways found : List (List Int)) : Prop where
  ex : ∃ s, ways = ways0 ++ s ∧ s.length ≤ pre.length ∧ ∀ t ∈ s, Wy w t ∧ t.length = r.length + 1
  cl : ∀ p ∈ pre, T w (lastI r) p → p ∉ r → r ++ [p] ∈ ways
  fd : ∀ t, t ∈ found ↔ t ∈ found0 ∨ (t = r ∧ isR w r ∧ gI r 0 ∈ pre)
theorem Wy.one {w : Web} {x : Int} (h0 : 0 ≤ x) (h1 : x < w.n) : Wy w [x] := ⟨by simp, by simp; omega, by simp, ⟨x, [], rfl, by simp⟩⟩
theorem Wy.head {w : Web} {r : List Int} (h : Wy w r) : 0 ≤ gI r 0 ∧ gI r 0 < w.n ∧ ∀ x ∈ r, gI r 0 ≤ x := by
  obtain ⟨a, s, e, hs⟩ := h.ls
  have ha : gI r 0 = a := by rw [e]; rfl
  have := h.rg a (by rw [e]; simp)
  refine ⟨by omega, by omega, fun x hx => ?_⟩
  rw [e] at hx
  rcases List.mem_cons.mp hx with rfl | hx
  · omega
  · have := hs x hx; omega
section
variable {w : Web} {ways ways0 found found0 : List (List Int)} {i : Nat} {r pre : List Int} {p : Int}
theorem RI.start (o : w.ok) (h6 : w.n ≤ 6) : RI w ((irng 0 w.n).map fun x => [x]) [] 0 := by
  have n1 := o.n1
  refine ⟨fun r hr => ?_, fun x x0 x1 => List.mem_map.mpr ⟨x, mem_ints.mpr ⟨x0, x1⟩, rfl⟩, fun j hj => by omega, fun r => ⟨fun h => by simp at h, fun ⟨⟨j, hj, _⟩, _⟩ => by omega⟩, ?_⟩
  · obtain ⟨x, hx, rfl⟩ := List.mem_map.mp hr
    have hx := mem_ints.mp hx
    exact .one hx.1 hx.2
  · rw [List.drop_zero, wts_same (k := 1) fun r hr => by obtain ⟨x, _, rfl⟩ := List.mem_map.mp hr; rfl]
    rw [List.length_map, ints_len, show wtN 1 = 9331 from rfl]
    omega
theorem RI.few (h6 : w.n ≤ 6) (b : RI w ways found i) (hi : i ≤ ways.length) : ways.length ≤ 55986 := by
  have := wts_le h6 (L := ways.drop i) fun r hr => b.wy r (List.mem_of_mem_drop hr)
  rw [List.length_drop] at this
  have := b.wt
  omega
theorem RN.start : RN w ways found i r [] ways found := ⟨⟨[], by simp, by simp, by simp⟩, by simp, fun t => by simp⟩
open Classical in
theorem RN.step (hr : Wy w r) (b : RN w ways0 found0 i r pre ways found) (hp : p < w.n) (h0 : gI r 0 ≤ p) {ways2 found2 : List (List Int)}
    (hw : ways2 = if T w (lastI r) p ∧ p ∉ r then ways ++ [r ++ [p]] else ways) (hf : found2 = if T w (lastI r) p ∧ p = gI r 0 ∧ 2 < r.length ∧ gI r 1 < lastI r then found ++ [r] else found) : RN w ways0 found0 i r (pre ++ [p]) ways2 found2 := by
  have sub : ∀ x ∈ ways, x ∈ ways2 := fun x hx => by rw [hw]; split; exact List.mem_append_left _ hx; exact hx
  obtain ⟨s, es, sl, sw⟩ := b.ex
  refine ⟨?_, fun q hq ht hn => ?_, fun t => ?_⟩
  · rw [hw]
    split
    · next c =>
      refine ⟨s ++ [r ++ [p]], by rw [es, List.append_assoc], by simp only [List.length_append, List.length_singleton]; omega, fun t ht => ?_⟩
      rcases List.mem_append.mp ht with ht | ht
      · exact sw t ht
      · simp at ht; subst ht
        exact ⟨hr.add hp h0 c.1 c.2, by simp⟩
    · exact ⟨s, es, by rw [List.length_append]; omega, sw⟩
  · rcases List.mem_append.mp hq with hq | hq
    · exact sub _ (b.cl q hq ht hn)
    · simp at hq; subst hq
      rw [hw, if_pos ⟨ht, hn⟩]; simp
  · have key : t ∈ found2 ↔ t ∈ found ∨ (t = r ∧ T w (lastI r) p ∧ p = gI r 0 ∧ 2 < r.length ∧ gI r 1 < lastI r) := by
      rw [hf]
      split
      · next c => rw [List.mem_append, List.mem_singleton]; exact ⟨fun h => h.imp id fun e => ⟨e, c⟩, fun h => h.imp id fun e => e.1⟩
      · next c => exact ⟨.inl, fun h => h.elim id fun e => absurd e.2 c⟩
    rw [key, b.fd]
    unfold isR
    rw [List.mem_append, List.mem_singleton]
    constructor
    · rintro ((h | ⟨h1, h2, h3⟩) | ⟨h1, h2, h3, h4, h5⟩)
      · exact .inl h
      · exact .inr ⟨h1, h2, .inl h3⟩
      · exact .inr ⟨h1, ⟨by rw [← h3]; exact h2, h4, h5⟩, .inr h3.symm⟩
    · rintro (h | ⟨h1, h2, h3 | h3⟩)
      · exact .inl (.inl h)
      · exact .inl (.inr ⟨h1, h2, h3⟩)
      · exact .inr ⟨h1, by rw [← h3]; exact h2.1, h3.symm, h2.2.1, h2.2.2⟩
theorem RN.out (h6 : w.n ≤ 6) (b0 : RI w ways0 found0 i) (hh : ways0[i]? = some r) (b : RN w ways0 found0 i r (irng (gI r 0) w.n) ways found) : RI w ways found (i + 1) := by
  obtain ⟨s, es, sl, sw⟩ := b.ex
  obtain ⟨hi, hg⟩ := List.getElem?_eq_some_iff.mp hh
  have hr := b0.wy r (List.mem_of_getElem? hh)
  obtain ⟨g0, g1, g2⟩ := hr.head
  have gets : ∀ j, j < i + 1 → ways[j]? = ways0[j]? := fun j hj => by rw [es, List.getElem?_append_left (by omega)]
  refine ⟨fun t ht => ?_, fun x x0 x1 => ?_, fun j hj t ht p hp hp2 hT hn => ?_, fun t => ?_, ?_⟩
  · rw [es] at ht
    rcases List.mem_append.mp ht with ht | ht
    · exact b0.wy t ht
    · exact (sw t ht).1
  · rw [es]; exact List.mem_append_left _ (b0.st x x0 x1)
  · rw [gets j hj] at ht
    by_cases e : j = i
    · subst e
      rw [hh] at ht; cases ht
      exact b.cl p (mem_ints.mpr ⟨hp, hp2⟩) hT hn
    · rw [es]; exact List.mem_append_left _ (b0.cl j (by omega) t ht p hp hp2 hT hn)
  · rw [b.fd, b0.fd]
    constructor
    · rintro (⟨⟨j, hj, e⟩, h2⟩ | ⟨rfl, h2, _⟩)
      · exact ⟨⟨j, by omega, by rw [gets j (by omega)]; exact e⟩, h2⟩
      · exact ⟨⟨i, by omega, by rw [gets i (by omega)]; exact hh⟩, h2⟩
    · rintro ⟨⟨j, hj, e⟩, h2⟩
      rw [gets j hj] at e
      by_cases c : j = i
      · subst c
        rw [hh] at e; cases e
        exact .inr ⟨rfl, h2, mem_ints.mpr ⟨by omega, by omega⟩⟩
      · exact .inl ⟨⟨j, by omega, e⟩, h2⟩
  · have h1 := b0.wt
    have e1 : ways0.drop i = r :: ways0.drop (i + 1) := by rw [List.drop_eq_getElem_cons hi, hg]
    have e2 : ways.drop (i + 1) = ways0.drop (i + 1) ++ s := by rw [es, List.drop_append_of_le_length (by omega)]
    rw [e1] at h1
    rw [e2, wts_app, wts_same fun t ht => (sw t ht).2]
    have hl := hr.len h6
    have h2 := wt_step hl.1 hl.2
    rw [ints_len] at sl
    have h3 : s.length * wtN (r.length + 1) ≤ 6 * wtN (r.length + 1) := Nat.mul_le_mul_right _ (by omega)
    simp only [wts, List.map_cons, List.sum_cons] at h1 ⊢
    omega
/-- all ways are looked at -/
theorem RI.all (b : RI w ways found i) (hi : ways.length ≤ i) : ∀ {r : List Int}, Wy w r → r ∈ ways := by
  have key : ∀ (k : Nat) {r : List Int}, r.length = k → Wy w r → r ∈ ways := by
    intro k
    induction k with
    | zero => intro r hl h; obtain ⟨a, s, e, _⟩ := h.ls; rw [e] at hl; simp at hl
    | succ k ih =>
      intro r hl h
      obtain ⟨a, s, e, hs⟩ := h.ls
      have hr := h.rg a (by rw [e]; simp)
      rcases List.eq_nil_or_concat s with c | ⟨s2, p, c⟩
      · rw [e, c]; exact b.st a hr.1 hr.2
      · have e2 : r = (a :: s2) ++ [p] := by rw [e, c]; simp
        have hne : a :: s2 ≠ [] := by simp
        have hlast : (a :: s2).getLast? = some (lastI (a :: s2)) := by
          unfold lastI
          rw [List.getLast?_eq_some_getLast hne]; rfl
        have hz := h.td
        rw [e2, zip_over hne, zip_tail hlast] at hz
        have nd := h.nd
        rw [e2, List.nodup_append] at nd
        have hw2 : Wy w (a :: s2) := ⟨nd.1, fun x hx => h.rg x (by rw [e2]; exact List.mem_append_left _ hx), fun z hzz => hz z (List.mem_append_left _ hzz), ⟨a, s2, rfl, fun x hx => hs x (by rw [c]; simp [hx])⟩⟩
        have hm := ih (r := a :: s2) (by rw [e2, List.length_append, List.length_singleton] at hl; omega) hw2
        obtain ⟨j, hj, ej⟩ := List.getElem_of_mem hm
        rw [e2]
        refine b.cl j (by omega) (a :: s2) (by rw [List.getElem?_eq_getElem hj, ej]) p (hs p (by rw [c]; simp)) (h.rg p (by rw [e2]; simp)).2 (hz (lastI (a :: s2), p) (List.mem_append_right _ (by simp))) fun hm => nd.2.2 p hm p (by simp) rfl
  exact fun {r} h => key _ rfl h
end
end Lib
end G7

namespace G7
namespace Lib
open PySem
/-- a ring, as looked at -/
def RgI (w : Web) (r : List Int) : Prop := 3 ≤ r.length ∧ (∀ x ∈ r, 0 ≤ x ∧ x < w.n) ∧ r.Nodup ∧ ∀ z ∈ nexts r, pr z.1 z.2 ∈ w.ts
noncomputable instance (w : Web) (r : List Int) : Decidable (RgI w r) := Classical.propDecidable _
theorem pr_TI {w : Web} {a b : Int} (t : T w a b) (o : w.ok) : pr a b ∈ w.ts := by
  unfold pr
  rcases t with t | t
  · have := o.rg _ t
    simp only at this
    rw [if_neg (by omega), if_pos (by omega)]; exact t
  · have := o.rg _ t
    simp only at this
    rw [if_pos (by omega), if_neg (by omega)]; exact t
theorem RgI.of {w : Web} (o : w.ok) {r : List Int} (h : Rg' w r) : RgI w r := by
  refine ⟨h.l3, fun x hx => ?_, h.nd, fun z hz => pr_TI (h.td z hz) o⟩
  have : x ∈ (nexts r).map Prod.fst := by rw [nexts_fst]; exact hx
  obtain ⟨z, hz, rfl⟩ := List.mem_map.mp this
  have := (h.td z hz).rg o
  omega
end Lib
end G7

set_option maxRecDepth 100000
namespace G7
open PySem PySem.Spec PyProof.Rows L2
end G7

namespace G7
namespace Lib
open PySem
end Lib
end G7

namespace G7
namespace Lib
open PySem
def leftF (ls : Ar) (l : List Int) : List Int := l.filter fun x => decide (x ∈ (ls.filter fun t => decide (t.1 ∈ l)).map (·.2))
theorem mem_left {ls : Ar} {l : List Int} {x : Int} : x ∈ leftF ls l ↔ x ∈ l ∧ ∃ a ∈ l, (a, x) ∈ ls := by
  unfold leftF
  simp only [List.mem_filter, decide_eq_true_eq, List.mem_map]
  refine and_congr_right fun _ => ⟨?_, ?_⟩
  · rintro ⟨⟨a, b⟩, ⟨h1, h2⟩, rfl⟩
    exact ⟨a, h2, h1⟩
  · rintro ⟨a, h1, h2⟩
    exact ⟨(a, x), ⟨h2, h1⟩, rfl⟩
theorem left_less {ls : Ar} (h : Acyc ls) {l : List Int} (ne : l ≠ []) : (leftF ls l).length < l.length := by
  obtain ⟨p, hp, hn⟩ := h.stuck ne
  have h1 := List.length_filter_le (fun x => decide (x ∈ (ls.filter fun t => decide (t.1 ∈ l)).map (·.2))) l
  rcases Nat.lt_or_ge (leftF ls l).length l.length with c | c
  · exact c
  · have e : leftF ls l = l := List.Sublist.eq_of_length_le (List.filter_sublist ..) c
    have : p ∈ leftF ls l := by rw [e]; exact hp
    obtain ⟨_, a, ha, hm⟩ := mem_left.mp this
    exact absurd hm (hn a ha)
/-- what was left behind by k turns -/
def LInv (ls : Ar) (n : Int) (k : Nat) (l : List Int) : Prop := (∀ x ∈ l, 0 ≤ x ∧ x < n) ∧ (Acyc ls → (l.length : Int) ≤ n - k ∨ l = []) ∧ ∃ h : Int → Int, (∀ x, x ∉ l → h x < k) ∧ ∀ t ∈ ls, t.2 ∉ l → t.1 ∉ l ∧ h t.1 < h t.2
theorem LInv.start {ls : Ar} {n : Int} (h0 : 0 ≤ n) (rg : ∀ t ∈ ls, (0 ≤ t.1 ∧ t.1 < n) ∧ 0 ≤ t.2 ∧ t.2 < n) : LInv ls n 0 (irng 0 n) := by
  refine ⟨fun x hx => mem_ints.mp hx, fun _ => .inl (by rw [ints_len]; omega), fun _ => -1, fun x _ => by simp only; omega, fun t ht c => absurd (mem_ints.mpr (rg t ht).2) c⟩
theorem LInv.step {ls : Ar} {n : Int} {k : Nat} {l : List Int} (i : LInv ls n k l) : LInv ls n (k + 1) (leftF ls l) := by
  obtain ⟨i1, i2, h, i4, i3⟩ := i
  refine ⟨fun x hx => i1 x (mem_left.mp hx).1, fun a => ?_, fun x => if x ∈ l then k else h x, fun x hx => ?_, fun t ht c => ?_⟩
  · by_cases e : l = []
    · right; rw [e]; rfl
    · left
      have := left_less a e
      rcases i2 a with c | c
      · omega
      · exact absurd c e
  · simp only
    by_cases c : x ∈ l
    · rw [if_pos c]; omega
    · rw [if_neg c]; have := i4 x c; omega
  · have h1 : t.1 ∉ l := fun m => by
      by_cases c2 : t.2 ∈ l
      · exact c (mem_left.mpr ⟨c2, t.1, m, ht⟩)
      · exact (i3 t ht c2).1 m
    refine ⟨fun m => h1 (mem_left.mp m).1, ?_⟩
    simp only; rw [if_neg h1]
    by_cases c2 : t.2 ∈ l
    · rw [if_pos c2]; exact i4 _ h1
    · rw [if_neg c2]; exact (i3 t ht c2).2
theorem LInv.end {ls : Ar} {n : Int} (h0 : 0 ≤ n) {l : List Int} (i : LInv ls n n.toNat l) : decide (l = []) = acB ls := by
  obtain ⟨i1, i2, h, i4, i3⟩ := i
  unfold acB
  refine decide_eq_decide.mpr ⟨fun e => ⟨h, fun t ht => (i3 t ht (by rw [e]; simp)).2⟩, fun a => ?_⟩
  rcases i2 a with c | c
  · exact List.eq_nil_of_length_eq_zero (by omega)
  · exact c
theorem isH_down {ls : Ar} {n : Int} {h : Int → Int} (rg : ∀ t ∈ ls, (0 ≤ t.1 ∧ t.1 < n) ∧ 0 ≤ t.2 ∧ t.2 < n) (i : IsH ls (fun q => 0 ≤ q ∧ q < n) h) : ∀ (d : Nat) {x : Int}, (0 ≤ x ∧ x < n) → ∀ m : Int, 0 ≤ m → m + d = h x → ∃ y, (0 ≤ y ∧ y < n) ∧ h y = m
  | 0, x, hx, m, m0, e => ⟨x, hx, by omega⟩
  | d + 1, x, hx, m, m0, e => by
    rcases i.at' x hx with c | ⟨a, ha, c⟩
    · omega
    · exact isH_down rg i d (x := a) (rg _ ha).1 m m0 (by omega)
theorem isH_lt {ls : Ar} {n : Int} {h : Int → Int} (rg : ∀ t ∈ ls, (0 ≤ t.1 ∧ t.1 < n) ∧ 0 ≤ t.2 ∧ t.2 < n) (i : IsH ls (fun q => 0 ≤ q ∧ q < n) h) {x : Int} (hx : 0 ≤ x ∧ x < n) : h x < n := by
  have key : ∀ m ∈ irng 0 (h x + 1), ∃ y, (0 ≤ y ∧ y < n) ∧ h y = m := fun m hm => by
    have := mem_ints.mp hm
    exact isH_down rg i (h x - m).toNat hx m this.1 (by omega)
  have h0 := i.nn x hx
  let g : Int → Int := fun m => if c : m ∈ irng 0 (h x + 1) then (key m c).choose else 0
  have hg : ∀ m ∈ irng 0 (h x + 1), (0 ≤ g m ∧ g m < n) ∧ h (g m) = m := fun m hm => by
    have : g m = (key m hm).choose := dif_pos hm
    rw [this]; exact (key m hm).choose_spec
  have hnd : ((irng 0 (h x + 1)).map g).Nodup := by
    rw [List.Nodup, List.pairwise_map]
    have hs : (irng 0 (h x + 1)).Pairwise (· < ·) := ints_sorted _ _
    refine (List.pairwise_iff_forall_sublist.mpr fun {a b} hab e => ?_)
    have ha := hab.mem (by simp : a ∈ [a, b])
    have hb := hab.mem (by simp : b ∈ [a, b])
    have hlt := List.pairwise_iff_forall_sublist.mp hs hab
    have e1 := (hg a ha).2
    have e2 := (hg b hb).2
    rw [e, e2] at e1
    omega
  have := nodup_le hnd (m := irng 0 n) fun y hy => by
    obtain ⟨m, hm, rfl⟩ := List.mem_map.mp hy
    exact mem_ints.mpr (hg m hm).1
  rw [List.length_map, ints_len, ints_len] at this
  omega
/-- raised by k turns, and now along the arrows of pre -/
structure HInv (ls : Ar) (n : Int) (H : Int → Int) (k : Nat) (pre : Ar) (hs : List Int) : Prop where
  len : (hs.length : Int) = n
  rg : ∀ q, 0 ≤ q → q < n → 0 ≤ gI hs q ∧ gI hs q ≤ H q ∧ ((k : Int) ≤ gI hs q ∨ gI hs q = H q)
  sub : ∀ t ∈ pre, t ∈ ls
  now : ∀ t ∈ pre, H t.1 = H t.2 - 1 → (k : Int) + 1 ≤ gI hs t.2 ∨ gI hs t.2 = H t.2
theorem HInv.start {ls : Ar} {n : Int} {H : Int → Int} (n0 : 0 ≤ n) (i : IsH ls (fun q => 0 ≤ q ∧ q < n) H) : HInv ls n H 0 [] (List.replicate n.toNat 0) := by
  refine ⟨by rw [List.length_replicate]; omega, fun q q0 q1 => ?_, by simp, by simp⟩
  have e : gI (List.replicate n.toNat (0 : Int)) q = 0 := by
    unfold gI
    rw [getElem!_pos _ _ (by rw [List.length_replicate]; omega), List.getElem_replicate]
  have := i.nn q ⟨q0, q1⟩
  rw [e]; omega
theorem HInv.put {ls : Ar} {n : Int} {H : Int → Int} {k : Nat} {pre : Ar} {hs : List Int} (rg : ∀ t ∈ ls, (0 ≤ t.1 ∧ t.1 < n) ∧ 0 ≤ t.2 ∧ t.2 < n) (i : IsH ls (fun q => 0 ≤ q ∧ q < n) H) (j : HInv ls n H k pre hs) {t : Int × Int} (ht : t ∈ ls) {v : Int} (hv : v = if gI hs t.1 + 1 > gI hs t.2 then gI hs t.1 + 1 else gI hs t.2) : HInv ls n H k (pre ++ [t]) (hs.set t.2.toNat v) := by
  have hr := rg t ht
  have hl := j.len
  have hup := i.up t.1 t.2 ht hr.2
  have h1 := j.rg t.1 hr.1.1 hr.1.2
  have h2 := j.rg t.2 hr.2.1 hr.2.2
  have hge : gI hs t.2 ≤ v ∧ gI hs t.1 + 1 ≤ v ∧ (v = gI hs t.2 ∨ v = gI hs t.1 + 1) := by rw [hv]; split <;> omega
  have hg : ∀ q, 0 ≤ q → q < n → gI (hs.set t.2.toNat v) q = if q = t.2 then v else gI hs q := fun q q0 q1 => by
    unfold gI
    by_cases e : q = t.2
    · subst e
      rw [if_pos rfl, getElem!_pos _ _ (by rw [List.length_set]; omega), List.getElem_set_self]
    · rw [if_neg e, getElem!_pos _ _ (by rw [List.length_set]; omega), getElem!_pos _ _ (by omega), List.getElem_set_ne (by omega)]
  have hsub : ∀ u ∈ pre ++ [t], u ∈ ls := fun u hu => by
    rcases List.mem_append.mp hu with hu | hu
    · exact j.sub u hu
    · simp only [List.mem_singleton] at hu
      subst hu; exact ht
  refine ⟨by rw [List.length_set]; exact hl, fun q q0 q1 => ?_, hsub, fun u hu e => ?_⟩
  · rw [hg q q0 q1]
    split
    · next c => subst c; omega
    · exact j.rg q q0 q1
  · have hur := (rg u (hsub u hu)).2
    rw [hg u.2 hur.1 hur.2]
    rcases List.mem_append.mp hu with hu | hu
    · have old := j.now u hu e
      split
      · next c => rw [c] at old ⊢; omega
      · exact old
    · simp only [List.mem_singleton] at hu
      subst hu
      rw [if_pos rfl]
      omega
theorem HInv.next {ls : Ar} {n : Int} {H : Int → Int} {k : Nat} {hs : List Int} (i : IsH ls (fun q => 0 ≤ q ∧ q < n) H) (j : HInv ls n H k ls hs) : HInv ls n H (k + 1) [] hs := by
  refine ⟨j.len, fun q q0 q1 => ?_, by simp, by simp⟩
  have h1 := j.rg q q0 q1
  rcases i.at' q ⟨q0, q1⟩ with c | ⟨a, ha, c⟩
  · omega
  · have := j.now _ ha c
    simp only at this
    omega
theorem HInv.end {ls : Ar} {n : Int} {H : Int → Int} {hs : List Int} (n0 : 0 ≤ n) (rg : ∀ t ∈ ls, (0 ≤ t.1 ∧ t.1 < n) ∧ 0 ≤ t.2 ∧ t.2 < n) (i : IsH ls (fun q => 0 ≤ q ∧ q < n) H) (j : HInv ls n H n.toNat [] hs) : IsH ls (fun q => 0 ≤ q ∧ q < n) (gI hs) := by
  have e : ∀ q, 0 ≤ q → q < n → gI hs q = H q := fun q q0 q1 => by
    have := j.rg q q0 q1
    have := isH_lt rg i ⟨q0, q1⟩
    omega
  refine ⟨fun q hq => by rw [e q hq.1 hq.2]; exact i.nn q hq, fun a q ha hq => ?_, fun q hq => ?_⟩
  · have hr := (rg _ ha).1
    rw [e q hq.1 hq.2, e a hr.1 hr.2]; exact i.up a q ha hq
  · rw [e q hq.1 hq.2]
    rcases i.at' q hq with c | ⟨a, ha, c⟩
    · exact .inl c
    · have hr := (rg _ ha).1
      exact .inr ⟨a, ha, by rw [e a hr.1 hr.2]; exact c⟩
end Lib
end G7

namespace G7
namespace Lib
open PySem
/-- turned but for one place, in a web in one piece -/
structure Seat (w : Web) (p : List Int) (s : Int) (q row cs : List Int) : Prop where
  go : turnsGo w p row = some q
  no : s ∉ row
  len : (cs.length : Int) = w.n
  cnt : ∀ v, 0 ≤ v → v < w.n → gI cs v = (row.count v : Int)
theorem Seat.start {w : Web} {p : List Int} {s : Int} (n0 : 0 ≤ w.n) : Seat w p s p [] (List.replicate w.n.toNat 0) := by
  refine ⟨rfl, by simp, by rw [List.length_replicate]; omega, fun v v0 v1 => ?_⟩
  unfold gI
  rw [getElem!_pos _ _ (by rw [List.length_replicate]; omega), List.getElem_replicate]; simp
theorem Seat.norm {w : Web} {p : List Int} {s : Int} {q row cs : List Int} (i : Seat w p s q row cs) (o : w.ok) (h : whole w) (hp : isP w p) (ap : Acyc (arw w p)) (s0 : 0 ≤ s) (s1 : s < w.n) : Norm w p q cs := by
  have hl := i.len
  obtain ⟨hq, aq, f, rg⟩ := go_fit o hp ap i.go
  refine ⟨hl, f.congr o fun x x0 x1 => (i.cnt x x0 x1).symm, fun x hx => ?_, fun x x0 x1 => ⟨s, h x s x0 x1 s0 s1, ?_⟩⟩
  · obtain ⟨k, hk, rfl⟩ := List.getElem_of_mem hx
    have := i.cnt k (by omega) (by omega)
    unfold gI at this
    rw [Int.toNat_natCast, getElem!_pos cs k hk] at this
    omega
  · rw [i.cnt s s0 s1, List.count_eq_zero_of_not_mem i.no]; rfl
theorem Seat.step {w : Web} {p : List Int} {s : Int} {q row cs : List Int} (i : Seat w p s q row cs) {v : Int} (hv : v ∈ sprF w q) (ne : v ≠ s) : Seat w p s (abtF w q v) (row ++ [v]) (cs.set v.toNat (gI cs v + 1)) := by
  have hr := (spr_mem.mp hv).1
  have hl := i.len
  refine ⟨?_, by simp [i.no, Ne.symm ne], by rw [List.length_set]; exact hl, fun x x0 x1 => ?_⟩
  · rw [turnsGo_app i.go]
    unfold turnsGo
    rw [if_pos hv]; rfl
  · rw [gI_set hr.1 x0 (by omega), List.count_append, i.cnt x x0 x1, i.cnt v hr.1 hr.2]
    by_cases e : x = v
    · subst e; rw [if_pos rfl]; simp
    · rw [if_neg e]
      have : List.count x [v] = 0 := by rw [List.count_eq_zero]; simp [e]
      omega
theorem Seat.sum {w : Web} {p : List Int} {s : Int} {q row cs : List Int} (i : Seat w p s q row cs) (o : w.ok) (h : whole w) (hp : isP w p) (ap : Acyc (arw w p)) (s0 : 0 ≤ s) (s1 : s < w.n) : 0 ≤ sumI cs ∧ sumI cs ≤ 100 := by
  have g := go_fit o hp ap i.go
  have n := i.norm o h hp ap s0 s1
  exact ⟨(sumI_pos n.nn).1, n.sum o hp g.1 ap g.2.1⟩
theorem Seat.only {w : Web} {q : List Int} {s : Int} (o : w.ok) (aq : Acyc (arw w q)) (e : ((sprF w q).filter fun x => !decide (x = s)) = []) : sprF w q = [s] := by
  have n1 := o.n1
  have hall : ∀ x ∈ sprF w q, x = s := fun x hx => by
    have := List.filter_eq_nil_iff.mp e x hx
    simpa using this
  obtain ⟨z, hz, hn⟩ := aq.stuck (l := irng 0 w.n) (fun c => by have := congrArg List.length c; rw [ints_len] at this; simp at this; omega)
  have hz2 : z ∈ sprF w q := spr_mem.mpr ⟨mem_ints.mp hz, fun t ht e => by
    have hr := arw_rg o t ht
    refine hn t.1 (mem_ints.mpr hr.1) ?_
    have : t = (t.1, z) := Prod.ext rfl e
    rw [← this]; exact ht⟩
  have hnd : (sprF w q).Pairwise (· < ·) := (ints_sorted _ _).filter _
  refine strict_ext hnd (by simp) fun x => ⟨fun hx => by simp [hall x hx], fun hx => ?_⟩
  simp at hx; subst hx
  rw [← hall z hz2]; exact hz2
end Lib
end G7

namespace G7
namespace Lib
open PySem
theorem gI_map {f : Int → Int} {n x : Int} (x0 : 0 ≤ x) (x1 : x < n) : gI ((irng 0 n).map f) x = f x := by
  unfold gI
  have h : x.toNat < (irng 0 n).length := by rw [ints_len]; omega
  have e : (irng 0 n)[x.toNat]'h = x := by
    have := gI_irng x0 x1
    unfold gI at this
    rwa [getElem!_pos (irng 0 n) x.toNat h] at this
  rw [getElem!_pos ((irng 0 n).map f) x.toNat (by rw [List.length_map]; exact h), List.getElem_map, e]
end Lib
end G7

set_option maxRecDepth 100000
namespace G7
open PySem
namespace Lib
theorem i_xt {w : WE} {e : En} {Q : D → En → Prop} (k : w e fun d e1 => Q (toX d) e1) : wXt w e Q := k
theorem i_idxX {xs : List D} {R : Prop} (k : R) : ((∃ ys, toX (.tuple xs) = .list ys) ∨ ∃ ys, toX (.tuple xs) = xtD ys) ∧ R := ⟨.inr ⟨xs, rfl⟩, k⟩
theorem indexD_Xi {l : List Int} {k : Int} (h : k ∈ l) : indexD (toX (TI l)) (.int k) = some (.int (l.idxOf k : Int)) := indexD_xi h
end Lib
end G7

set_option maxRecDepth 100000
namespace G7
open PySem
namespace Lib
end Lib
end G7

set_option maxRecDepth 100000
namespace G7
open PySem
namespace Lib
theorem Gr.left {ls : Ar} {l0 o l : List Int} (g : Gr ls l0 o l) (nd : l0.Nodup) : l = l0.filter fun q => !decide (q ∈ o) := by
  induction g with
  | nil => exact (List.filter_eq_self.mpr fun _ _ => by simp).symm
  | @snoc o l r p g h ih =>
    have ndl : l.Nodup := by rw [ih]; exact nd.filter _
    rw [ndl.erase_eq_filter]
    rw [ih, List.filter_filter]
    congr 1
    funext q
    by_cases c : q = p
    · subst c; simp
    · simp [c]
inductive Wk (ls : Ar) (l : List Int) : List Int → Int → Prop
  | nil : Wk ls l [] (gI l 0)
  | snoc {w : List Int} {h : Int} : Wk ls l w h → h ∉ w → Wk ls l (w ++ [h]) (gI (befF ls h l) 0)
theorem Wk.one {ls : Ar} {l : List Int} : ∀ {w w' : List Int} {h h' : Int}, Wk ls l w h → Wk ls l w' h' → w.length = w'.length → w = w' ∧ h = h' := by
  intro w w' h h' g
  induction g generalizing w' h' with
  | nil =>
    intro g' e
    cases g' with
    | nil => exact ⟨rfl, rfl⟩
    | snoc _ _ => simp at e
  | @snoc w h g _ ih =>
    intro g' e
    cases g' with
    | nil => simp at e
    | @snoc w2 h2 g2 _ =>
      obtain ⟨rfl, rfl⟩ := ih g2 (by simpa using e)
      exact ⟨rfl, rfl⟩
theorem Wk.cut {ls : Ar} {l : List Int} : ∀ {w : List Int} {h : Int}, Wk ls l w h → ∀ k, k < w.length → ∃ v g, Wk ls l v g ∧ g ∉ v ∧ v.length = k := by
  intro w h g
  induction g with
  | nil => intro k hk; simp at hk
  | @snoc w h g n ih =>
    intro k hk
    by_cases c : k < w.length
    · exact ih k c
    · rw [List.length_append, List.length_singleton] at hk
      exact ⟨w, h, g, n, by omega⟩
def RW (ls : Ar) (l r : List Int) : Prop := ∃ w h, Wk ls l w h ∧ h ∈ w ∧ r = (w.drop (w.idxOf h)).reverse
theorem RW.one {ls : Ar} {l r r' : List Int} (a : RW ls l r) (b : RW ls l r') : r = r' := by
  obtain ⟨w, h, g, hm, rfl⟩ := a
  obtain ⟨w', h', g', hm', rfl⟩ := b
  have : w.length = w'.length := by
    rcases Nat.lt_trichotomy w.length w'.length with c | c | c
    · obtain ⟨v, u, gv, nu, hv⟩ := g'.cut _ c
      obtain ⟨rfl, rfl⟩ := gv.one g hv
      exact absurd hm nu
    · exact c
    · obtain ⟨v, u, gv, nu, hv⟩ := g.cut _ c
      obtain ⟨rfl, rfl⟩ := gv.one g' hv
      exact absurd hm' nu
  obtain ⟨rfl, rfl⟩ := g.one g' this
  rfl
def RL (ls : Ar) (l0 r : List Int) : Prop := ∃ o l, Gr ls l0 o l ∧ (l.filter fun q => decide (befF ls q l = [])) = [] ∧ l ≠ [] ∧ RW ls l r
theorem Gr.cut {ls : Ar} {l0 : List Int} : ∀ {o l : List Int}, Gr ls l0 o l → ∀ k, k < o.length → ∃ o' l', Gr ls l0 o' l' ∧ (l'.filter fun q => decide (befF ls q l' = [])) ≠ [] ∧ o'.length = k := by
  intro o l g
  induction g with
  | nil => intro k hk; simp at hk
  | @snoc o l r p g h ih =>
    intro k hk
    by_cases c : k < o.length
    · exact ih k c
    · rw [List.length_append, List.length_singleton] at hk
      exact ⟨o, l, g, by rw [h]; simp, by omega⟩
theorem RL.one {ls : Ar} {l0 r r' : List Int} (a : RL ls l0 r) (b : RL ls l0 r') : r = r' := by
  obtain ⟨o, l, g, hf, _, rw1⟩ := a
  obtain ⟨o', l', g', hf', _, rw2⟩ := b
  have : o.length = o'.length := by
    rcases Nat.lt_trichotomy o.length o'.length with c | c | c
    · obtain ⟨v, u, gv, nu, hv⟩ := g'.cut _ c
      obtain ⟨rfl, rfl⟩ := gv.one g hv
      exact absurd hf nu
    · exact c
    · obtain ⟨v, u, gv, nu, hv⟩ := g.cut _ c
      obtain ⟨rfl, rfl⟩ := gv.one g' hv
      exact absurd hf' nu
  obtain ⟨rfl, rfl⟩ := g.one g' this
  exact rw1.one rw2
end Lib
end G7

set_option maxRecDepth 100000
namespace G7
open PySem
namespace Lib
theorem Gr.srt {ls : Ar} {l0 o l : List Int} (g : Gr ls l0 o l) (h : l0.Pairwise (· < ·)) : l.Pairwise (· < ·) := by
  induction g with
  | nil => exact h
  | snoc g hf ih => exact ih.sublist List.erase_sublist
end Lib
end G7

set_option maxRecDepth 100000
namespace G7
open PySem PySem.Spec PyProof.Rows L2
end G7

set_option maxRecDepth 100000
namespace G7
open PySem
namespace Lib
structure Wf (w : Web) : Prop where
  n1 : 1 ≤ w.n
  n9 : w.n ≤ 9
  rg : ∀ t ∈ w.ts, 0 ≤ t.1 ∧ t.1 < t.2 ∧ t.2 < w.n
  srt : w.ts.Pairwise lexP
theorem wf_of {w : Web} (o : w.ok) : Wf w := ⟨o.n1, o.n9, o.rg, o.srt⟩
def Col (w : Web) (k : Int) (h : List Int) : Prop := (h.length : Int) = w.n ∧ hok w h = true ∧ ∀ x ∈ h, 0 ≤ x ∧ x < k
theorem Col.mono {w : Web} {k j : Int} {h : List Int} (c : Col w k h) (hj : k ≤ j) : Col w j h := ⟨c.1, c.2.1, fun x hx => by have := c.2.2 x hx; omega⟩
/-- how many numbers are used -/
def usedN (b : List Int) : Int := (maxI b).getD (-1) + 1
structure Bg (w : Web) (k : Int) (b : List Int) : Prop where
  len : (b.length : Int) ≤ w.n
  rg : ∀ x ∈ b, 0 ≤ x ∧ x < k ∧ x < usedN b
  all : ∀ y, 0 ≤ y → y < usedN b → y ∈ b
  ok : ∀ t ∈ w.ts, t.2 < (b.length : Int) → gI b t.1 ≠ gI b t.2
theorem used_nil : usedN [] = 0 := rfl
theorem maxI_app (b : List Int) (x : Int) : maxI (b ++ [x]) = some (max ((maxI b).getD x) x) := by
  cases b with
  | nil => simp [maxI]
  | cons y b => simp [maxI, List.foldl_append]
theorem gI_app1 {b : List Int} {x i : Int} (h0 : 0 ≤ i) (h1 : i < (b.length : Int)) : gI (b ++ [x]) i = gI b i := by
  unfold gI
  rw [getElem!_pos _ _ (by rw [List.length_append]; omega), getElem!_pos _ _ (by omega), List.getElem_append_left (by omega)]
theorem gI_app2 {b : List Int} {x : Int} : gI (b ++ [x]) (b.length : Int) = x := by
  unfold gI
  rw [getElem!_pos _ _ (by rw [List.length_append]; simp)]
  simp
theorem Bg.nil {w : Web} (o : Wf w) (k : Int) : Bg w k [] := by
  have n1 := o.n1
  refine ⟨by simp; omega, by simp, fun y h0 h1 => ?_, fun t ht h => ?_⟩
  · rw [used_nil] at h1; omega
  · have := o.rg t ht
    simp at h; omega
theorem used_app {w : Web} {k : Int} {b : List Int} (g : Bg w k b) {x : Int} (h0 : 0 ≤ x) (h1 : x ≤ usedN b) : usedN (b ++ [x]) = if x = usedN b then usedN b + 1 else usedN b := by
  have e1 : usedN (b ++ [x]) = max ((maxI b).getD x) x + 1 := by unfold usedN; rw [maxI_app]; rfl
  have e2 : max ((maxI b).getD x) x + 1 = if x = usedN b then usedN b + 1 else usedN b := by
    by_cases e : x = usedN b
    · rw [if_pos e]
      cases b with
      | nil => rw [used_nil] at e; subst e; rfl
      | cons y b =>
        have : usedN (y :: b) = b.foldl max y + 1 := rfl
        show max (b.foldl max y) x + 1 = _
        rw [Int.max_def]
        split <;> omega
    · rw [if_neg e]
      cases b with
      | nil => rw [used_nil] at e h1; omega
      | cons y b =>
        have : usedN (y :: b) = b.foldl max y + 1 := rfl
        show max (b.foldl max y) x + 1 = _
        rw [Int.max_def]
        split <;> omega
  rw [e1, e2]
theorem Bg.snoc {w : Web} (o : Wf w) {k : Int} {b : List Int} (g : Bg w k b) (hl : (b.length : Int) < w.n) {x : Int} (h0 : 0 ≤ x) (h1 : x ≤ usedN b) (hk : x < k) (hb : ∀ q, T w q (b.length : Int) → 0 ≤ q → q < (b.length : Int) → gI b q ≠ x) : Bg w k (b ++ [x]) := by
  have hu := used_app g h0 h1
  refine ⟨by rw [List.length_append, List.length_singleton]; omega, fun y hy => ?_, fun y y0 y1 => ?_, fun t ht hlt => ?_⟩
  · rw [hu]
    rcases List.mem_append.mp hy with hy | hy
    · have := g.rg y hy
      split <;> omega
    · simp at hy; subst hy
      refine ⟨h0, hk, ?_⟩
      split <;> omega
  · rw [hu] at y1
    by_cases e : x = usedN b
    · rw [if_pos e] at y1
      by_cases e2 : y = usedN b
      · rw [e2, ← e]; simp
      · exact List.mem_append_left _ (g.all y y0 (by omega))
    · rw [if_neg e] at y1
      exact List.mem_append_left _ (g.all y y0 y1)
  · have hr := o.rg t ht
    rw [List.length_append, List.length_singleton] at hlt
    by_cases e : t.2 = (b.length : Int)
    · rw [e, gI_app2, gI_app1 hr.1 (by omega)]
      exact hb t.1 (.inl (by rw [← e]; exact ht)) hr.1 (by omega)
    · rw [gI_app1 hr.1 (by omega), gI_app1 (by omega) (by omega)]
      exact g.ok t ht (by omega)
theorem mem_nearF {w : Web} (o : Wf w) {p q : Int} : q ∈ nearF w p ↔ T w q p := by
  unfold nearF
  rw [(isort_perm _).mem_iff, List.mem_map]
  constructor
  · rintro ⟨t, ht, rfl⟩
    obtain ⟨h1, h2⟩ := List.mem_filter.mp ht
    simp at h2
    rcases h2 with e | e
    · right
      have : t = (p, t.1 + t.2 - p) := Prod.ext e.symm (by simp only; omega)
      rw [← this]; exact h1
    · left
      have : t = (t.1 + t.2 - p, p) := Prod.ext (by simp only; omega) e.symm
      rw [← this]; exact h1
  · rintro (h | h)
    · exact ⟨(q, p), List.mem_filter.mpr ⟨h, by simp⟩, by simp⟩
    · exact ⟨(p, q), List.mem_filter.mpr ⟨h, by simp⟩, by simp; omega⟩
end Lib
end G7

set_option maxRecDepth 100000
namespace G7
open PySem PySem.Spec PyProof.Rows L2
end G7

set_option maxRecDepth 100000
namespace G7
open PySem PySem.Spec PyProof.Rows L2
def ArgM (K : PySem.W.Frag) (H : Hp) (S O P : Addr → Prop) (a : Addr) (m : Option PM) (v : V) (d : D) : Prop := match m with
  | none => v = .ref a ∧ Obj1 K H S a d
  | some .fz => Rep K H S v d
  | some .rd => Rep K H S v d ∨ ∃ b, v = .ref b ∧ ¬ P b ∧ O b ∧ ObjR K H S b d
  | some .pl => ∃ b, v = .ref b ∧ P b ∧ d = .none
def ArgsM (K : PySem.W.Frag) (H : Hp) (S O P : Addr → Prop) (a : Addr) : List (Option PM) → List V → List D → Prop
  | [], [], [] => True
  | m :: ms, v :: vs, d :: ds => ArgM K H S O P a m v d ∧ ArgsM K H S O P a ms vs ds
  | _, _, _ => False
theorem ArgsM.len {K : PySem.W.Frag} {H : Hp} {S O P : Addr → Prop} {a : Addr} : ∀ {ms : List (Option PM)} {vs : List V} {ds : List D}, ArgsM K H S O P a ms vs ds → vs.length = ms.length ∧ ds.length = ms.length
  | [], [], [], _ => ⟨rfl, rfl⟩
  | _ :: _, _ :: _, _ :: _, h => by have := ArgsM.len h.2; simp [this.1, this.2]
  | [], [], _ :: _, h => h.elim
  | [], _ :: _, _, h => h.elim
  | _ :: _, [], _, h => h.elim
  | _ :: _, _ :: _, [], h => h.elim
end G7

set_option maxRecDepth 100000
namespace G7
open PySem
namespace Lib
theorem i_dget2 {a b c : WE} {e : En} {Q : D → En → Prop} (k : a e fun x e1 => ∃ m, x = .dict m ∧ plainM m = true ∧ b e1 fun y e2 => c e2 fun z e3 => ∃ k, keyOf y = some k ∧ Q ((lookD m k).getD z) e3) : wDget2 a b c e Q := k
end Lib
end G7

namespace G7
namespace Lib
open PySem
theorem renP_pr (os : List Int) (t : Int × Int) : renP os t = pr (gI os t.1) (gI os t.2) := by
  unfold renP pr gI
  simp [List.getD_eq_getElem?_getD]
def renW (os : List Int) (w : Web) : Web := ⟨w.n, psort (w.ts.map (renP os))⟩
def imgt (os : List Int) (t : Int × Int) : Int × Int := (gI os t.1, gI os t.2)
def tau (os : List Int) (y : Int) : Int := (os.idxOf y : Int)
def spF (os : List Int) (w : Web) : List Int := w.ts.map fun t => ((renW os w).ts.idxOf (renP os t) : Int)
section
variable {os : List Int} {w : Web} {p q m mq : List Int}
theorem ts_nd (o : w.ok) : w.ts.Nodup := o.srt.imp fun h e => by
  subst e
  unfold lexP at h
  omega
theorem ok_good (o : w.ok) : good w.n w.ts := ⟨ts_nd o, o.rg⟩
theorem ren_okW (o : w.ok) (hos : os.Perm (irng 0 w.n)) : (renW os w).ok := ((ok_good o).map hos).web o.n1 o.n9 (by rw [List.length_map]; exact o.len)
theorem ren_len : (renW os w).ts.length = w.ts.length := by
  show (psort _).length = _
  rw [(psort_perm _).length_eq, List.length_map]
theorem ren_mem {t : Int × Int} : t ∈ (renW os w).ts ↔ ∃ u ∈ w.ts, t = renP os u := by
  show t ∈ psort _ ↔ _
  rw [(psort_perm _).mem_iff, List.mem_map]
  exact ⟨fun ⟨u, h, e⟩ => ⟨u, h, e.symm⟩, fun ⟨u, h, e⟩ => ⟨u, h, e.symm⟩⟩
theorem sp_len : (spF os w).length = w.ts.length := by unfold spF; rw [List.length_map]
theorem sp_get {k : Nat} (hk : k < w.ts.length) : gI (spF os w) k = ((renW os w).ts.idxOf (renP os w.ts[k]!) : Int) := by
  unfold gI
  rw [Int.toNat_natCast, getElem!_pos (spF os w) k (by rw [sp_len]; exact hk), getElem!_pos w.ts k hk]
  simp [spF]
theorem sp_rg {k : Nat} (hk : k < w.ts.length) : 0 ≤ gI (spF os w) k ∧ gI (spF os w) k < w.ts.length := by
  rw [sp_get hk]
  have : renP os w.ts[k]! ∈ (renW os w).ts := ren_mem.mpr ⟨_, by rw [getElem!_pos w.ts k hk]; exact List.getElem_mem hk, rfl⟩
  have := List.idxOf_lt_length_of_mem this
  rw [ren_len] at this
  omega
theorem sp_at {k : Nat} (hk : k < w.ts.length) : (renW os w).ts[(gI (spF os w) k).toNat]! = renP os w.ts[k]! := by
  have hr := sp_rg (os := os) hk
  have hm : renP os w.ts[k]! ∈ (renW os w).ts := ren_mem.mpr ⟨_, by rw [getElem!_pos w.ts k hk]; exact List.getElem_mem hk, rfl⟩
  rw [getElem!_pos (renW os w).ts _ (by rw [ren_len]; omega)]
  have e : (gI (spF os w) k).toNat = (renW os w).ts.idxOf (renP os w.ts[k]!) := by rw [sp_get hk]; rfl
  simp only [e]
  exact List.getElem_idxOf (List.idxOf_lt_length_of_mem hm)
theorem sp_sur (o : w.ok) (hos : os.Perm (irng 0 w.n)) {j : Nat} (hj : j < w.ts.length) : ∃ k, k < w.ts.length ∧ gI (spF os w) k = j := by
  have hj2 : j < (renW os w).ts.length := by rw [ren_len]; exact hj
  obtain ⟨u, hu, e⟩ := ren_mem.mp (List.getElem_mem hj2)
  obtain ⟨k, hk, ek⟩ := List.mem_iff_getElem.mp hu
  refine ⟨k, hk, ?_⟩
  rw [sp_get hk, getElem!_pos w.ts k hk, ek, ← e]
  have := (ts_nd (ren_okW o hos)).idxOf_getElem j hj2
  omega
/-- the fall told anew -/
structure Mv (os : List Int) (w : Web) (p m : List Int) : Prop where
  isP : isP (renW os w) m
  at' : ∀ k, k < w.ts.length → gI m (gI (spF os w) k) = if gI os w.ts[k]!.1 < gI os w.ts[k]!.2 then gI p k else 1 - gI p k
theorem arr_alg {a b x : Int} (ne : a ≠ b) (hb : x = 0 ∨ x = 1) : (if (if a < b then x else 1 - x) = 1 then pr a b else ((pr a b).2, (pr a b).1)) = if x = 1 then (a, b) else (b, a) := by
  unfold pr
  rcases hb with rfl | rfl <;> rcases Int.lt_or_gt_of_ne ne with c | c
  · simp [c, show ¬ b < a by omega]
  · simp [c, show ¬ a < b by omega]
  · simp [c, show ¬ b < a by omega]
  · simp [c, show ¬ a < b by omega]
theorem Mv.arr (i : Mv os w p m) (o : w.ok) (hos : os.Perm (irng 0 w.n)) (hp : Lib.isP w p) {k : Nat} (hk : k < w.ts.length) : Lib.arr (renW os w) m (gI (spF os w) k).toNat = imgt os (Lib.arr w p k) := by
  have hr := sp_rg (os := os) hk
  have hpl := hp.1
  have ht : w.ts[k]! ∈ w.ts := by rw [getElem!_pos w.ts k hk]; exact List.getElem_mem hk
  have hg := o.rg _ ht
  have ne := perm_ne hos (i := w.ts[k]!.1) (j := w.ts[k]!.2) hg.1 (by omega) (by omega) hg.2.2 (by omega)
  have hb : p[k]! = 0 ∨ p[k]! = 1 := by rw [getElem!_pos p k (by omega)]; exact hp.2 _ (List.getElem_mem (by omega))
  have hm := i.at' k hk
  have e1 : gI p (k : Nat) = p[k]! := rfl
  have e2 : gI m (gI (spF os w) k) = m[(gI (spF os w) k).toNat]! := rfl
  rw [e1, e2] at hm
  unfold Lib.arr imgt
  rw [sp_at hk, renP_pr, hm, arr_alg ne hb]
  split <;> rfl
theorem Mv.mem (i : Mv os w p m) (o : w.ok) (hos : os.Perm (irng 0 w.n)) (hp : Lib.isP w p) {t : Int × Int} : t ∈ arw (renW os w) m ↔ ∃ u ∈ arw w p, t = imgt os u := by
  have hpl := hp.1
  have hml := i.isP.1
  rw [ren_len] at hml
  rw [mem_arw i.isP]
  constructor
  · rintro ⟨j, hj, rfl⟩
    obtain ⟨k, hk, e⟩ := sp_sur (os := os) o hos (j := j) (by omega)
    refine ⟨Lib.arr w p k, (mem_arw hp).mpr ⟨k, by omega, rfl⟩, ?_⟩
    rw [← i.arr o hos hp hk, e, Int.toNat_natCast]
  · rintro ⟨u, hu, rfl⟩
    obtain ⟨k, hk, rfl⟩ := (mem_arw hp).mp hu
    have hr := sp_rg (os := os) (w := w) (k := k) (by omega)
    exact ⟨(gI (spF os w) k).toNat, by omega, (i.arr o hos hp (by omega)).symm⟩
theorem tau_gI (hos : os.Perm (irng 0 w.n)) {x : Int} (h0 : 0 ≤ x) (h1 : x < w.n) : tau os (gI os x) = x := by
  have hl := hos.length_eq
  rw [ints_len] at hl
  have nd : os.Nodup := hos.nodup_iff.mpr ((ints_sorted _ _).imp fun h => by omega)
  unfold tau gI
  rw [getElem!_pos os x.toNat (by omega), nd.idxOf_getElem x.toNat (by omega)]
  omega
theorem Mv.mem' (i : Mv os w p m) (o : w.ok) (hos : os.Perm (irng 0 w.n)) (hp : Lib.isP w p) {u : Int × Int} (h1 : 0 ≤ u.1 ∧ u.1 < w.n) (h2 : 0 ≤ u.2 ∧ u.2 < w.n) : imgt os u ∈ arw (renW os w) m ↔ u ∈ arw w p := by
  rw [i.mem o hos hp]
  constructor
  · rintro ⟨v, hv, e⟩
    have hr := arw_rg o v hv
    have e1 := congrArg (fun z => tau os z.1) e
    have e2 := congrArg (fun z => tau os z.2) e
    simp only [imgt] at e1 e2
    rw [tau_gI hos h1.1 h1.2, tau_gI hos hr.1.1 hr.1.2] at e1
    rw [tau_gI hos h2.1 h2.2, tau_gI hos hr.2.1 hr.2.2] at e2
    rw [show u = v from Prod.ext e1 e2]; exact hv
  · exact fun hu => ⟨u, hu, rfl⟩
theorem Mv.acyc (i : Mv os w p m) (o : w.ok) (hos : os.Perm (irng 0 w.n)) (hp : Lib.isP w p) : Acyc (arw (renW os w) m) ↔ Acyc (arw w p) := by
  constructor
  · rintro ⟨h, hh⟩
    exact ⟨fun x => h (gI os x), fun t ht => hh _ ((i.mem o hos hp).mpr ⟨t, ht, rfl⟩)⟩
  · rintro ⟨h, hh⟩
    refine ⟨fun y => h (tau os y), fun t ht => ?_⟩
    obtain ⟨u, hu, rfl⟩ := (i.mem o hos hp).mp ht
    have hr := arw_rg o u hu
    simp only [imgt]
    rw [tau_gI hos hr.1.1 hr.1.2, tau_gI hos hr.2.1 hr.2.2]
    exact hh u hu
theorem Mv.fit (i : Mv os w p m) (j : Mv os w q mq) (o : w.ok) (hos : os.Perm (irng 0 w.n)) (hp : Lib.isP w p) (hq : Lib.isP w q) {c : Int → Int} (f : Fit w p q c) : Fit (renW os w) m mq fun y => c (tau os y) := fun t ht => by
  obtain ⟨u, hu, rfl⟩ := (i.mem o hos hp).mp ht
  have hr := arw_rg o u hu
  have h1 := f u hu
  have h2 := j.mem' o hos hq (u := u) hr.1 hr.2
  simp only [imgt] at h2 ⊢
  rw [tau_gI hos hr.1.1 hr.1.2, tau_gI hos hr.2.1 hr.2.2, h1]
  unfold ind
  by_cases c : u ∈ arw w q
  · rw [if_pos c, if_pos (h2.mpr c)]
  · rw [if_neg c, if_neg (fun z => c (h2.mp z))]
theorem Mv.one (i : Mv os w p m) (j : Mv os w p mq) (o : w.ok) (hos : os.Perm (irng 0 w.n)) (hp : Lib.isP w p) (ap : Acyc (arw w p)) : m = mq :=
  same_arw i.isP j.isP ((j.acyc o hos hp).mpr ap) fun t ht => (j.mem o hos hp).mpr ((i.mem o hos hp).mp ht)
end
end Lib
end G7

namespace G7
namespace Lib
open PySem
end Lib
end G7

set_option maxRecDepth 100000
namespace G7
open PySem
namespace Lib
end Lib
end G7

set_option maxRecDepth 100000
namespace G7
open PySem
namespace Lib
end Lib
end G7

set_option maxRecDepth 100000
namespace G7
open PySem
namespace Lib
structure Blk (k : Nat) (ss : List (List Int)) (done : List (Int × Int)) (g : List Int) : Prop where
  len : g.length = ss.length
  nd : g.Nodup
  rg : ∀ c ∈ g, 0 ≤ c ∧ c < (k : Int)
  mem : ∀ z, z ∈ done ↔ ∃ i : Nat, ∃ (hi : i < ss.length) (hg : i < g.length), z.1 ∈ ss[i] ∧ z.2 = g[i]
theorem Blk.old {k : Nat} {ss : List (List Int)} {done : List (Int × Int)} {g : List Int} (b : Blk k ss done g) {i : Nat} (hi : i < ss.length) (p : Int) : Blk k (ss.set i (ss[i] ++ [p])) ((p, g[i]'(by rw [b.len]; exact hi)) :: done) g := by
  have hg : i < g.length := by rw [b.len]; exact hi
  refine ⟨by rw [List.length_set]; exact b.len, b.nd, b.rg, fun z => ?_⟩
  rw [List.mem_cons, b.mem]
  constructor
  · rintro (rfl | ⟨j, hj, hgj, h1, h2⟩)
    · exact ⟨i, by rw [List.length_set]; exact hi, hg, by rw [List.getElem_set_self]; simp, rfl⟩
    · refine ⟨j, by rw [List.length_set]; exact hj, hgj, ?_, h2⟩
      by_cases e : i = j
      · subst e; rw [List.getElem_set_self]; simp [h1]
      · rw [List.getElem_set_ne e]; exact h1
  · rintro ⟨j, hj, hgj, h1, h2⟩
    rw [List.length_set] at hj
    by_cases e : i = j
    · subst e
      rw [List.getElem_set_self] at h1
      rcases List.mem_append.mp h1 with h1 | h1
      · exact .inr ⟨i, hj, hgj, h1, h2⟩
      · exact .inl (Prod.ext (List.mem_singleton.mp h1) h2)
    · rw [List.getElem_set_ne e] at h1
      exact .inr ⟨j, hj, hgj, h1, h2⟩
theorem Blk.new {k : Nat} {ss : List (List Int)} {done : List (Int × Int)} {g : List Int} (b : Blk k ss done g) {c : Int} (h0 : 0 ≤ c) (h1 : c < (k : Int)) (hn : c ∉ g) (p : Int) : Blk k (ss ++ [[p]]) ((p, c) :: done) (g ++ [c]) := by
  refine ⟨by rw [List.length_append, List.length_append, b.len]; rfl, List.nodup_append.mpr ⟨b.nd, by simp, fun x hx y hy e => hn ?_⟩, fun x hx => ?_, fun z => ?_⟩
  · rw [List.mem_singleton.mp hy] at e; rw [← e]; exact hx
  · rcases List.mem_append.mp hx with hx | hx
    · exact b.rg x hx
    · rw [List.mem_singleton.mp hx]; exact ⟨h0, h1⟩
  · rw [List.mem_cons, b.mem]
    constructor
    · rintro (rfl | ⟨j, hj, hgj, h1, h2⟩)
      · refine ⟨ss.length, by simp, by rw [List.length_append, b.len]; simp, by simp, ?_⟩
        have : ss.length = g.length := b.len.symm
        simp [this]
      · exact ⟨j, by rw [List.length_append]; omega, by rw [List.length_append]; omega, by rw [List.getElem_append_left hj]; exact h1, by rw [List.getElem_append_left hgj]; exact h2⟩
    · rintro ⟨j, hj, hgj, h1, h2⟩
      rw [List.length_append, List.length_singleton] at hj
      have hl := b.len
      by_cases e : j < ss.length
      · rw [List.getElem_append_left e] at h1
        rw [List.getElem_append_left (by omega)] at h2
        exact .inr ⟨j, e, by omega, h1, h2⟩
      · have ej : j = ss.length := by omega
        subst ej
        left
        refine Prod.ext ?_ ?_
        · simpa using h1
        · simp only [← hl] at h2
          simpa using h2
end Lib
end G7

set_option maxRecDepth 100000
namespace G7
open PySem
namespace Lib
end Lib
end G7

set_option maxRecDepth 100000
namespace G7
open PySem
namespace Lib
end Lib
end G7

set_option maxRecDepth 100000
namespace G7
open PySem
namespace Lib
end Lib
end G7

set_option maxRecDepth 100000
namespace G7
open PySem
namespace Lib
end Lib
end G7

set_option maxRecDepth 100000
namespace G7
open PySem
namespace Lib
theorem T_irr {w : Web} (o : Wf w) {p : Int} : ¬ T w p p := by
  rintro (h | h) <;> have := o.rg _ h <;> simp only at this <;> omega
end Lib
end G7

set_option maxRecDepth 100000
namespace G7
open PySem
namespace Lib
end Lib
end G7

set_option maxRecDepth 100000
namespace G7
open PySem
namespace Lib
def ptg (w : Web) (h : Int → Int) : List Int := w.ts.map fun t => if h t.1 < h t.2 then 1 else 0
def NE (w : Web) (h : Int → Int) : Prop := ∀ t ∈ w.ts, h t.1 ≠ h t.2
theorem ptg_eq {w : Web} {h g : Int → Int} : ptg w h = ptg w g ↔ ∀ t ∈ w.ts, (h t.1 < h t.2 ↔ g t.1 < g t.2) := by
  unfold ptg
  rw [List.map_inj_left]
  constructor
  · intro q t ht
    have := q t ht
    by_cases c1 : h t.1 < h t.2 <;> by_cases c2 : g t.1 < g t.2 <;> simp [c1, c2] at this ⊢
  · intro q t ht
    have := q t ht
    by_cases c1 : h t.1 < h t.2
    · rw [if_pos c1, if_pos (this.mp c1)]
    · rw [if_neg c1, if_neg fun c => c1 (this.mpr c)]
theorem ptg_isP (w : Web) (h : Int → Int) : isP w (ptg w h) := by
  refine ⟨by unfold ptg; rw [List.length_map], fun x hx => ?_⟩
  obtain ⟨t, _, rfl⟩ := List.mem_map.mp hx
  split
  · exact .inr rfl
  · exact .inl rfl
theorem ptg_up {w : Web} {h : Int → Int} (n : NE w h) : ∀ t ∈ arw w (ptg w h), h t.1 < h t.2 := by
  intro t ht
  unfold ptg at ht
  rw [arw_map] at ht
  obtain ⟨u, hu, rfl⟩ := List.mem_map.mp ht
  have := n u hu
  by_cases c : h u.1 < h u.2
  · simp only [if_pos c, if_true]; exact c
  · simp only [if_neg c]
    show h _ < h _
    rw [if_neg (by decide)]
    show h u.2 < h u.1
    omega
theorem up_ptg {w : Web} {p : List Int} (hp : isP w p) {h : Int → Int} (hu : ∀ t ∈ arw w p, h t.1 < h t.2) : NE w h ∧ p = ptg w h := by
  have hl := hp.1
  have hat : ∀ i (hi : i < p.length) (ht : i < w.ts.length), if p[i] = 1 then h w.ts[i].1 < h w.ts[i].2 else h w.ts[i].2 < h w.ts[i].1 := fun i hi ht => by
    have := hu _ ((mem_arw hp).mpr ⟨i, hi, rfl⟩)
    unfold arr at this
    rw [getElem!_pos p i hi, getElem!_pos w.ts i ht] at this
    split
    · rename_i c; rw [if_pos c] at this; exact this
    · rename_i c; rw [if_neg c] at this; exact this
  refine ⟨fun t ht => ?_, List.ext_getElem (by unfold ptg; rw [List.length_map, hl]) fun i h1 h2 => ?_⟩
  · obtain ⟨i, hi, rfl⟩ := List.mem_iff_getElem.mp ht
    have := hat i (by omega) hi
    split at this <;> omega
  · have := hat i h1 (by omega)
    have e1 : (ptg w h)[i] = if h w.ts[i].1 < h w.ts[i].2 then 1 else 0 := by simp only [ptg, List.getElem_map]
    rw [e1]
    rcases hp.2 _ (List.getElem_mem h1) with e | e
    · rw [e] at this ⊢
      rw [if_neg (by decide)] at this
      rw [if_neg (by omega)]
    · rw [e] at this ⊢
      rw [if_pos rfl] at this
      rw [if_pos this]
theorem mem_F {w : Web} (o : w.ok) {p : List Int} : p ∈ fallsL w ↔ ∃ h, NE w h ∧ p = ptg w h := by
  rw [fallsL_mem o]
  constructor
  · rintro ⟨hp, h, hu⟩
    obtain ⟨h1, h2⟩ := up_ptg hp hu
    exact ⟨h, h1, h2⟩
  · rintro ⟨h, h1, rfl⟩
    exact ⟨ptg_isP w h, h, ptg_up h1⟩
theorem rank_le {w1 w2 : Web} {Φ Ψ : (Int → Int) → Prop} {L M : List (List Int)} (ndL : L.Nodup) (hL : ∀ p, p ∈ L ↔ ∃ h, Φ h ∧ p = ptg w1 h) (hM : ∀ q, q ∈ M ↔ ∃ h, Ψ h ∧ q = ptg w2 h) (τ : (Int → Int) → Int → Int)
    (ht : ∀ h, Φ h → Ψ (τ h)) (inj : ∀ h g, Φ h → Φ g → ptg w2 (τ h) = ptg w2 (τ g) → ptg w1 h = ptg w1 g) : L.length ≤ M.length := by
  classical
  let f : List Int → List Int := fun p => if c : ∃ h, Φ h ∧ p = ptg w1 h then ptg w2 (τ (Classical.choose c)) else []
  have hf : ∀ p ∈ L, ∃ h, Φ h ∧ p = ptg w1 h ∧ f p = ptg w2 (τ h) := fun p hp => by
    have c := (hL p).mp hp
    exact ⟨Classical.choose c, (Classical.choose_spec c).1, (Classical.choose_spec c).2, dif_pos c⟩
  have hn : (L.map f).Nodup := by
    unfold List.Nodup
    rw [List.pairwise_map]
    refine (List.nodup_iff_pairwise_ne.mp ndL).imp_of_mem fun {p q} hp hq hne e => hne ?_
    obtain ⟨h, h1, h2, h3⟩ := hf p hp
    obtain ⟨g, g1, g2, g3⟩ := hf q hq
    rw [h2, g2]
    exact inj h g h1 g1 (by rw [← h3, ← g3, e])
  have := nodup_leG hn fun q hq => by
    obtain ⟨p, hp, rfl⟩ := List.mem_map.mp hq
    obtain ⟨h, h1, h2, h3⟩ := hf p hp
    exact (hM _).mpr ⟨τ h, ht h h1, h3⟩
  rw [List.length_map] at this
  exact this
theorem filt_mem {L : List (List Int)} (P : List Int → Prop) [DecidablePred P] {p : List Int} : p ∈ L.filter (fun p => decide (P p)) ↔ p ∈ L ∧ P p := by
  rw [List.mem_filter]; simp
end Lib
end G7

set_option maxRecDepth 100000
namespace G7
open PySem
namespace Lib
end Lib
end G7

set_option maxRecDepth 100000
namespace G7
open PySem
namespace Lib
theorem big (L : List (Int × Int)) (h : Int → Int) (a b : Int) : ∃ N : Int, h a - h b < N ∧ (h b - h a < N ∧ 0 ≤ N) := by
  by_cases c : h a ≤ h b
  · exact ⟨h b - h a + 1, by omega, by omega, by omega⟩
  · exact ⟨h a - h b + 1, by omega, by omega, by omega⟩
end Lib
end G7

set_option maxRecDepth 100000
namespace G7
open PySem
namespace Lib
end Lib
end G7

set_option maxRecDepth 100000
namespace G7
open PySem
namespace Lib
end Lib
end G7

set_option maxRecDepth 100000
namespace G7
open PySem
namespace Lib
end Lib
end G7

set_option maxRecDepth 100000
namespace G7
open PySem
namespace Lib
theorem T_rev {w : Web} {a b : Int} (h : T w a b) : T w b a := h.elim .inr .inl
theorem NE_T {w : Web} {h : Int → Int} : NE w h ↔ ∀ x y, T w x y → h x ≠ h y := by
  constructor
  · rintro n x y (t | t)
    · exact n _ t
    · exact fun e => n _ t e.symm
  · intro n t ht; exact n t.1 t.2 (.inl ht)
/-- r alone is a spring -/
def Sr (w : Web) (r : Int) (h : Int → Int) : Prop := (∀ y, T w r y → h r < h y) ∧ ∀ x, 0 ≤ x → x < w.n → x ≠ r → ∃ y, T w x y ∧ h y < h x
open Classical in
noncomputable def fallsS (w : Web) (r : Int) : List (List Int) := (fallsL w).filter fun q => decide (∃ h, (NE w h ∧ Sr w r h) ∧ q = ptg w h)
theorem mem_FS {w : Web} (o : w.ok) {r : Int} {p : List Int} : p ∈ fallsS w r ↔ ∃ h, (NE w h ∧ Sr w r h) ∧ p = ptg w h := by
  classical
  unfold fallsS
  rw [filt_mem, mem_F o]
  exact ⟨fun h => h.2, fun ⟨h, h1, h2⟩ => ⟨⟨h, h1.1, h2⟩, h, h1, h2⟩⟩
theorem fallsS_nd {w : Web} (o : w.ok) (r : Int) : (fallsS w r).Nodup := by
  classical
  exact (fallsL_nd o).filter _
theorem T_rg {w : Web} (o : w.ok) {x y : Int} (t : T w x y) : (0 ≤ x ∧ x < w.n) ∧ 0 ≤ y ∧ y < w.n := by
  rcases t with t | t
  · have := o.rg _ t; simp only at this; omega
  · have := o.rg _ t; simp only at this; omega
end Lib
end G7

set_option maxRecDepth 100000
namespace G7
open PySem
namespace Lib
end Lib
end G7

set_option maxRecDepth 100000
namespace G7
open PySem
namespace Lib
end Lib
end G7

set_option maxRecDepth 100000
namespace G7
open PySem
namespace Lib
end Lib
end G7

namespace G7
namespace Lib
open PySem
theorem i_callN {S : FS} {a : WA} {Q : D → En → Prop} {e : En} (k : a e fun xs e1 => S xs fun r => (∀ cn, r ≠ exD cn) ∧ Q r e1) : wCallN S a e Q := k
theorem i_isE {i : Nat} {b : Bool} {d : D} {Q : D → En → Prop} {e : En} (h : e[i]? = some (some d)) (k : Q (.bool b) e) : wIsE i b e Q := ⟨⟨d, h⟩, k⟩
theorem exD_inj {a b : Str} (h : exD a = exD b) : a = b := by
  unfold exD at h
  injection h with h
  injection h with h _
  injection h with _ h
  injection h
theorem i_tryX {i : Nat} {cs : List (Str × WS)} {wb : WS} {W : WD} {e : En} (k : wb { W with rt := fun d e1 => (∀ cn, d = exD cn → tryCase cs cn { nx := fun e2 => W.nx (e2.set i none), rt := fun d e2 => W.rt d (e2.set i none), bk := fun e2 => W.bk (e2.set i none), ct := fun e2 => W.ct (e2.set i none) } (e1.set i (some (exD cn)))) ∧ ((∀ cn, d ≠ exD cn) → W.rt d e1) } e) : wTryX i cs wb W e := k
/-- told: not raised -/
theorem told {d : D} {P : Str → Prop} {Q : Prop} (h : ∀ cn, d ≠ exD cn) (q : Q) : (∀ cn, d = exD cn → P cn) ∧ ((∀ cn, d ≠ exD cn) → Q) := ⟨fun cn e => absurd e (h cn), fun _ => q⟩
/-- told: raised -/
theorem raised {c : Str} {P : Str → Prop} {Q : Prop} (q : P c) : (∀ cn, exD c = exD cn → P cn) ∧ ((∀ cn, exD c ≠ exD cn) → Q) := ⟨fun cn e => by rw [← exD_inj e]; exact q, fun h => absurd rfl (h c)⟩
theorem cnt_ltb {α : Type} {p q : α → Bool} : ∀ {L : List α}, (∀ x ∈ L, p x = true → q x = true) → ∀ {y}, y ∈ L → p y = false → q y = true → L.countP p < L.countP q
  | x :: L, h, y, hy, py, qy => by
    rw [List.countP_cons, List.countP_cons]
    have hle : L.countP p ≤ L.countP q := List.countP_mono_left fun z hz => h z (by simp [hz])
    rcases List.mem_cons.mp hy with rfl | hy
    · rw [py, qy]; simp; omega
    · have := cnt_ltb (fun z hz => h z (by simp [hz])) hy py qy
      have hx := h x (by simp)
      cases px : p x
      · cases qx : q x <;> simp <;> omega
      · rw [hx px]; simp; omega
theorem reach_rg {w : Web} (o : w.ok) {x y : Int} (x0 : 0 ≤ x) (x1 : x < w.n) (r : Reach w x y) : 0 ≤ y ∧ y < w.n := r.rg o ⟨x0, x1⟩
/-- the least of a piece -/
def LeastP (w : Web) (r : Int) : Prop := 0 ≤ r ∧ r < w.n ∧ ∀ y, Reach w r y → r ≤ y
theorem least_of {w : Web} (o : w.ok) : ∀ (k : Nat) {x : Int}, x ≤ k → 0 ≤ x → x < w.n → ∃ r, LeastP w r ∧ Reach w x r
  | 0, x, h, x0, x1 => ⟨x, ⟨x0, x1, fun y r => by have := reach_rg o x0 x1 r; omega⟩, .refl⟩
  | k + 1, x, h, x0, x1 => by
    by_cases c : ∃ y, Reach w x y ∧ y < x
    · obtain ⟨y, r, hy⟩ := c
      have := reach_rg o x0 x1 r
      obtain ⟨z, hz, r2⟩ := least_of o k (x := y) (by omega) this.1 this.2
      exact ⟨z, hz, r.trans r2⟩
    · exact ⟨x, ⟨x0, x1, fun y r => by
        apply Classical.byContradiction
        intro h2
        exact c ⟨y, r, by omega⟩⟩, .refl⟩
/-- so far with the least places -/
def Spread (w : Web) (t : Nat) (l : List Int) : Prop := ∀ r, LeastP w r → gI l r = r ∧ ((∀ x, Reach w r x → gI l x = r) ∨ t + 1 ≤ (irng 0 w.n).countP fun x => decide (gI l x = r))
theorem Spread.start {w : Web} : Spread w 0 (irng 0 w.n) := fun r hr => by
  have e := gI_irng hr.1 hr.2.1
  refine ⟨e, .inr ?_⟩
  exact List.countP_pos_iff.mpr ⟨r, mem_ints.mpr ⟨hr.1, hr.2.1⟩, by simpa using e⟩
theorem cross {w : Web} {P : Int → Prop} {x y : Int} (r : Reach w x y) (hx : P x) (hy : ¬ P y) : ∃ u v, T w u v ∧ P u ∧ ¬ P v ∧ Reach w x v := by
  induction r with
  | refl => exact absurd hx hy
  | @step u v r t ih =>
    by_cases c : P u
    · exact ⟨u, v, t, c, hy, .step r t⟩
    · obtain ⟨a, b, h1, h2, h3, h4⟩ := ih c
      exact ⟨a, b, h1, h2, h3, h4⟩
/-- a round: l0 before it, l after the ties of pre -/
def RndP (w : Web) (l0 : List Int) (pre : List (Int × Int)) (l : List Int) : Prop := ∀ r, LeastP w r → (∀ x, 0 ≤ x → x < w.n → gI l0 x = r → gI l x = r) ∧ ∀ t ∈ pre, gI l0 t.1 = r ∨ gI l0 t.2 = r → gI l t.1 = r ∧ gI l t.2 = r
theorem RndP.done {w : Web} (o : w.ok) {t : Nat} {l0 l : List Int} (h : Spread w t l0) (hr : RndP w l0 w.ts l) : Spread w (t + 1) l := fun r lr => by
  obtain ⟨e, h⟩ := h r lr
  obtain ⟨k, s⟩ := hr r lr
  refine ⟨k r lr.1 lr.2.1 e, ?_⟩
  rcases h with h | h
  · exact .inl fun x rx => by have := reach_rg o lr.1 lr.2.1 rx; exact k x this.1 this.2 (h x rx)
  by_cases c : ∀ x, Reach w r x → gI l0 x = r
  · exact .inl fun x rx => by have := reach_rg o lr.1 lr.2.1 rx; exact k x this.1 this.2 (c x rx)
  · obtain ⟨x, hx⟩ := Classical.not_forall.mp c
    obtain ⟨rx, nx⟩ := Classical.not_imp.mp hx
    obtain ⟨u, v, tt, hu, hv, rv⟩ := cross (P := fun z => gI l0 z = r) rx e nx
    have hvr := reach_rg o lr.1 lr.2.1 rv
    have hv2 : gI l v = r := by
      rcases tt with m | m
      · exact (s (u, v) m (.inl hu)).2
      · exact (s (v, u) m (.inr hu)).1
    have := cnt_ltb (p := fun x => decide (gI l0 x = r)) (q := fun x => decide (gI l x = r)) (L := irng 0 w.n) (fun z hz h => decide_eq_true (k z (mem_ints.mp hz).1 (mem_ints.mp hz).2 (of_decide_eq_true h))) (mem_ints.mpr hvr) (decide_eq_false hv) (decide_eq_true hv2)
    exact .inr (by omega)
theorem Spread.all {w : Web} (o : w.ok) {t : Nat} {l : List Int} (h : Spread w t l) (ht : w.n ≤ t) {x y : Int} (x0 : 0 ≤ x) (x1 : x < w.n) (r : Reach w x y) : gI l x = gI l y := by
  obtain ⟨z, lz, rz⟩ := least_of o x.toNat (x := x) (by omega) x0 x1
  have a : ∀ u, Reach w z u → gI l u = z := by
    rcases (h z lz).2 with h | h
    · exact h
    · have := List.countP_le_length (p := fun x => decide (gI l x = z)) (l := irng 0 w.n)
      rw [ints_len] at this
      omega
  rw [a x rz.symm, a y (rz.symm.trans r)]
end Lib
end G7

set_option maxRecDepth 100000
namespace G7
open PySem PySem.Spec PyProof.Rows L2
def okT : RK → Bool
  | .fz => true
  | .ow _ => true
  | _ => false
section
variable {K : PySem.W.Frag} {κ : List SK} {g : Rg} {env : En} {σ : St} {H H0 H' : Hp} {S S' : Addr → Prop}
theorem RepAll.ints : ∀ {ns : List Int} {vs : List V}, RepAll K H S vs (ns.map .int) → RepAll K H' S' vs (ns.map .int)
  | [], _, .nil => .nil
  | n :: ns, _, .cons r t => by
    rw [List.map_cons]
    have := r.toInt
    subst this
    exact .cons (.int _) t.ints
theorem Res.loose {k : RK} {v : V} {d : D} (f : Frm K κ g env σ H) (hk : okT k = true) (r : Res K g k H0 H v d) : Rep K H g.O v d := by
  cases k with
  | fz => exact Rep.keep (fun _ _ _ q => q) (fun a q => .inl (.inl q)) r
  | ow i =>
    obtain ⟨a, rfl, ea, ob⟩ := r
    exact (ob.keep (fun _ q => q) (fun _ _ _ q => q) fun a q => .inl (.inl q)).rep (f.alo i a ea).1
  | rd => simp [okT] at hk
  | nw => simp [okT] at hk
  | pl => simp [okT] at hk
  | np => simp [okT] at hk
theorem ResA.loose (f : Frm K κ g env σ H) : ∀ {ks : List RK} {vs : List V} {ds : List D}, ks.all okT = true → ResA K g H0 H ks vs ds → RepAll K H g.O vs ds
  | [], [], [], _, _ => .nil
  | k :: _, _ :: _, _ :: _, hk, h => by
    simp only [List.all_cons, Bool.and_eq_true] at hk
    exact .cons (h.1.loose f hk.1) (ResA.loose f hk.2 h.2)
  | [], [], _ :: _, _, h => h.elim
  | [], _ :: _, _, _, h => h.elim
  | _ :: _, [], _, _, h => h.elim
  | _ :: _, _ :: _, [], _, h => h.elim
end
end G7

set_option maxRecDepth 100000
namespace G7
open PySem
namespace Lib
theorem neD_LT (L M : List (List Int)) : neD (.list (L.map TI)) (.list (M.map TI)) = some (.bool (!decide (L = M))) := by
  have e1 : ∀ L : List (List Int), (PyData.list (L.map TI)) = .list (L.map dT) := fun _ => rfl
  rw [e1, e1, neD_lay (lay_lst (lay_map (k := 1) (fun a => lay_dT a) L)) (lay_lst (lay_map (k := 1) (fun a => lay_dT a) M)), eqv_lst eqv_dT]
end Lib
end G7

set_option maxRecDepth 100000
namespace G7
open PySem
namespace Lib
theorem and_nn {a b : Int} (ha : 0 ≤ a) (hb : 0 ≤ b) : Builtin.bitAnd a b = ((a.toNat &&& b.toNat : Nat) : Int) := by
  unfold Builtin.bitAnd
  rw [decide_eq_true ha, decide_eq_true hb]
theorem and_pos {a b : Int} (ha : 0 ≤ a) (hb : 0 ≤ b) : 0 < Builtin.bitAnd a b ↔ ∃ i : Int, 0 ≤ i ∧ tb a i = true ∧ tb b i = true := by
  rw [and_nn ha hb]
  constructor
  · intro h
    apply Classical.byContradiction
    intro c
    have : a.toNat &&& b.toNat = 0 := Nat.eq_of_testBit_eq fun i => by
      rw [Nat.testBit_and, Nat.zero_testBit]
      cases h1 : a.toNat.testBit i <;> cases h2 : b.toNat.testBit i <;> first | rfl | exact absurd ⟨(i : Int), by omega, by unfold tb; rw [Int.toNat_natCast]; exact h1, by unfold tb; rw [Int.toNat_natCast]; exact h2⟩ c
    omega
  · rintro ⟨i, _, h1, h2⟩
    apply Classical.byContradiction
    intro c
    have : a.toNat &&& b.toNat = 0 := by omega
    have h3 := Nat.testBit_and a.toNat b.toNat i.toNat
    unfold tb at h1 h2
    rw [this, Nat.zero_testBit, h1, h2] at h3
    cases h3
theorem or_lt {a b : Int} (ha : 0 ≤ a) (hb : 0 ≤ b) {n : Nat} (h1 : a < 2 ^ n) (h2 : b < 2 ^ n) : Builtin.bitOr a b < 2 ^ n := by
  have e2 : ((2 ^ n : Nat) : Int) = 2 ^ n := by simp
  rw [or_nn ha hb]
  have := Nat.or_lt_two_pow (x := a.toNat) (y := b.toNat) (n := n) (by omega) (by omega)
  omega
theorem pow_lt {i : Int} (i0 : 0 ≤ i) {n : Nat} (h : i < n) : (2 : Int) ^ i.toNat < 2 ^ n := by
  have e1 : ((2 ^ i.toNat : Nat) : Int) = 2 ^ i.toNat := by simp
  have e2 : ((2 ^ n : Nat) : Int) = 2 ^ n := by simp
  have := Nat.pow_lt_pow_right (a := 2) (by omega) (show i.toNat < n by omega)
  omega
/-- an order that grows from s: each other place has a near one ahead, and all that lead to it -/
def GrowO (ks is : List Int) (s : Int) (os : List Int) : Prop := ∀ pre x post, os = pre ++ x :: post → x ≠ s → (∃ y ∈ pre, tb (gI ks x) y = true) ∧ ∀ y, 0 ≤ y → tb (gI is x) y = true → y ∈ pre
def CanO (ks is : List Int) (n : Nat) (s : Int) : Prop := ∃ os : List Int, os.Perm (irng 0 n) ∧ (∃ r, os = s :: r) ∧ GrowO ks is s os
structure PlI (ks is : List Int) (n : Nat) (s : Int) (os : List Int) (m : Int) : Prop where
  nd : os.Nodup
  rg : ∀ x ∈ os, 0 ≤ x ∧ x < (n : Int)
  hd : ∃ r, os = s :: r
  gr : GrowO ks is s os
  m0 : 0 ≤ m
  m1 : m < 2 ^ n
  bt : ∀ i : Int, 0 ≤ i → (tb m i = true ↔ i ∈ os)
/-- what may be put next -/
def AddO (ks is : List Int) (os : List Int) (x : Int) : Prop := x ∉ os ∧ (∃ y ∈ os, tb (gI ks x) y = true) ∧ ∀ y, 0 ≤ y → tb (gI is x) y = true → y ∈ os
theorem PlI.put {ks is : List Int} {n : Nat} {s : Int} {os : List Int} {m x : Int} (h : PlI ks is n s os m) (x0 : 0 ≤ x) (x1 : x < n) (a : AddO ks is os x) : PlI ks is n s (os ++ [x]) (Builtin.bitOr m (2 ^ x.toNat)) := by
  have hp := pow_nn x.toNat
  refine ⟨List.nodup_append.mpr ⟨h.nd, by simp, fun y hy z hz e => a.1 (by rw [← List.mem_singleton.mp hz, ← e]; exact hy)⟩, fun y hy => ?_, ?_, ?_, or_pos h.m0 hp, or_lt h.m0 hp h.m1 (pow_lt x0 x1), fun i i0 => ?_⟩
  · rcases List.mem_append.mp hy with hy | hy
    · exact h.rg y hy
    · rw [List.mem_singleton.mp hy]; exact ⟨x0, x1⟩
  · obtain ⟨r, e⟩ := h.hd
    exact ⟨r ++ [x], by rw [e]; rfl⟩
  · intro pre y post e ne
    rcases List.append_eq_append_iff.mp e with ⟨as, e1, e2⟩ | ⟨bs, e1, e2⟩
    · cases as with
      | nil =>
        rw [List.append_nil] at e1
        have e3 := (List.cons.inj (e2.trans rfl)).1
        subst e3
        subst e1
        exact a.2
      | cons z as =>
        rw [List.cons_append] at e2
        have e4 := (List.cons.inj e2).2
        cases as <;> simp at e4
    · cases bs with
      | nil =>
        rw [List.append_nil] at e1
        have e3 := (List.cons.inj e2).1
        subst e3
        subst e1
        exact a.2
      | cons z bs =>
        rw [List.cons_append] at e2
        obtain ⟨e3, e4⟩ := List.cons.inj e2
        subst e3
        exact h.gr pre y bs e1 ne
  · rw [tb_or h.m0 hp, tb_pow x0 i0, List.mem_append, List.mem_singleton, Bool.or_eq_true, h.bt i i0, decide_eq_true_eq]
theorem PlI.start {ks is : List Int} {n : Nat} {s : Int} (s0 : 0 ≤ s) (s1 : s < n) : PlI ks is n s [s] (2 ^ s.toNat) := by
  refine ⟨by simp, fun x hx => by rw [List.mem_singleton.mp hx]; exact ⟨s0, s1⟩, ⟨[], rfl⟩, fun pre x post e ne => ?_, pow_nn _, pow_lt s0 s1, fun i i0 => by rw [tb_pow s0 i0, decide_eq_true_eq, List.mem_singleton]⟩
  cases pre with
  | nil => exact absurd (List.cons.inj e).1.symm ne
  | cons z pre => rw [List.cons_append] at e; have := (List.cons.inj e).2; cases pre <;> simp at this
theorem PlI.len {ks is : List Int} {n : Nat} {s : Int} {os : List Int} {m : Int} (h : PlI ks is n s os m) : os.length ≤ n := by
  have := nodup_le (l := os) (m := irng 0 n) h.nd fun x hx => mem_ints.mpr (h.rg x hx)
  rw [ints_len] at this
  omega
end Lib
end G7

set_option maxRecDepth 100000
namespace G7
open PySem
namespace Lib
def powS (l : List Int) : Int := (l.map fun y => (2 : Int) ^ y.toNat).sum
theorem pow_sum : ∀ (l : List Int), (∀ y ∈ l, 0 ≤ y) → l.Pairwise (fun x y => y < x) → 0 ≤ powS l ∧ (∀ Y : Int, 0 ≤ Y → (∀ y ∈ l, y < Y) → powS l < 2 ^ Y.toNat) ∧ ∀ i : Int, 0 ≤ i → (tb (powS l) i = true ↔ i ∈ l)
  | [], _, _ => ⟨Int.le_refl _, fun Y _ _ => Int.pow_pos (by omega), fun i _ => by
      have : powS [] = 0 := rfl
      rw [this, tb_zero]; simp⟩
  | z :: l, h0, hs => by
    obtain ⟨hz, hs⟩ := List.pairwise_cons.mp hs
    obtain ⟨a1, a2, a3⟩ := pow_sum l (fun y hy => h0 y (by simp [hy])) hs
    have z0 := h0 z (by simp)
    have hlt := a2 z z0 hz
    have e : powS (z :: l) = 2 ^ z.toNat + powS l := by simp [powS]
    have e2 : ((2 ^ z.toNat : Nat) : Int) = 2 ^ z.toNat := by simp
    have hn : (powS (z :: l)).toNat = 2 ^ z.toNat ||| (powS l).toNat := by
      rw [e]
      have := Nat.two_pow_add_eq_or_of_lt (i := z.toNat) (b := (powS l).toNat) (by omega) 1
      rw [Nat.mul_one] at this
      rw [← this]
      omega
    have hp := pow_nn z.toNat
    refine ⟨by rw [e]; omega, fun Y Y0 hY => ?_, fun i i0 => ?_⟩
    · have hzY := hY z (by simp)
      have : 2 ^ (z.toNat + 1) ≤ 2 ^ Y.toNat := Nat.pow_le_pow_right (by omega) (by omega)
      have e3 : ((2 ^ Y.toNat : Nat) : Int) = 2 ^ Y.toNat := by simp
      rw [Nat.pow_succ] at this
      rw [e]
      omega
    · unfold tb
      rw [hn, Nat.testBit_or, Nat.testBit_two_pow, Bool.or_eq_true, decide_eq_true_eq, List.mem_cons]
      have := a3 i i0
      unfold tb at this
      rw [this]
      constructor
      · rintro (q | q)
        · exact .inl (by omega)
        · exact .inr q
      · rintro (q | q)
        · exact .inl (by rw [q])
        · exact .inr q
theorem pow_asc {l : List Int} (h0 : ∀ y ∈ l, 0 ≤ y) (hs : l.Pairwise (· < ·)) : 0 ≤ powS l ∧ ∀ i : Int, 0 ≤ i → (tb (powS l) i = true ↔ i ∈ l) := by
  have e : powS l = powS l.reverse := by
    unfold powS
    rw [List.map_reverse, List.sum_reverse]
  obtain ⟨a1, _, a3⟩ := pow_sum l.reverse (fun y hy => h0 y (List.mem_reverse.mp hy)) (List.pairwise_reverse.mpr hs)
  rw [e]
  exact ⟨a1, fun i i0 => by rw [a3 i i0, List.mem_reverse]⟩
def nsF (w : Web) : List Int := (irng 0 w.n).map fun x => powS (nearF w x)
theorem ns_len (w : Web) : (nsF w).length = w.n.toNat := by unfold nsF; rw [List.length_map, ints_len]; omega
theorem ns_gI {w : Web} {x : Int} (x0 : 0 ≤ x) (x1 : x < w.n) : gI (nsF w) x = powS (nearF w x) := by
  have hx : x.toNat < (nsF w).length := by rw [ns_len]; omega
  have h4 : gI (irng 0 w.n) x = x := gI_irng x0 x1
  unfold gI at h4 ⊢
  rw [getElem!_pos _ _ (by rw [ints_len]; omega)] at h4
  rw [getElem!_pos (nsF w) x.toNat hx]
  have e : (nsF w)[x.toNat] = powS (nearF w ((irng 0 w.n)[x.toNat]'(by rw [ints_len]; omega))) := by simp only [nsF, List.getElem_map]
  rw [e, h4]
theorem near_rg {w : Web} (o : w.ok) {x y : Int} (h : y ∈ nearF w x) : 0 ≤ y ∧ y < w.n := (T_rg o ((mem_nearF (wf_of o)).mp h)).1
theorem near_strict {w : Web} (o : w.ok) (x : Int) : (nearF w x).Pairwise (· < ·) := by
  unfold nearF
  refine isort_strict ?_
  unfold List.Nodup
  rw [List.pairwise_map]
  refine (List.nodup_iff_pairwise_ne.mp ((ok_nd o).filter _)).imp_of_mem fun {a b} ha hb ne e => ne ?_
  obtain ⟨a1, a2⟩ := List.mem_filter.mp ha
  obtain ⟨b1, b2⟩ := List.mem_filter.mp hb
  simp only [Bool.or_eq_true, decide_eq_true_eq] at a2 b2
  have ra := o.rg a a1
  have rb := o.rg b b1
  refine Prod.ext ?_ ?_ <;> omega
theorem ns_tb {w : Web} (o : w.ok) {x : Int} (x0 : 0 ≤ x) (x1 : x < w.n) {i : Int} (i0 : 0 ≤ i) : tb (gI (nsF w) x) i = true ↔ T w x i := by
  rw [ns_gI x0 x1, (pow_asc (fun z hz => (near_rg o hz).1) (near_strict o x)).2 i i0, mem_nearF (wf_of o)]
  exact ⟨T_rev, T_rev⟩
def lbF (is : List Int) (b e : Int) : List Int := is.set e.toNat (Builtin.bitOr (gI is e) (2 ^ b.toNat))
theorem lb_len (is : List Int) (b e : Int) : (lbF is b e).length = is.length := by unfold lbF; rw [List.length_set]
theorem lb_gI {is : List Int} {b e x : Int} (e0 : 0 ≤ e) (x0 : 0 ≤ x) (x1 : x < (is.length : Int)) : gI (lbF is b e) x = if x = e then Builtin.bitOr (gI is e) (2 ^ b.toNat) else gI is x := gI_set e0 x0 x1
theorem lb_nn {is : List Int} (h : ∀ x ∈ is, 0 ≤ x) {b e : Int} (e0 : 0 ≤ e) (e1 : e < (is.length : Int)) : ∀ x ∈ lbF is b e, 0 ≤ x := fun x hx => by
  rcases List.mem_or_eq_of_mem_set hx with h1 | h1
  · exact h x h1
  · rw [h1]; exact or_pos (gI_nn h e0 e1) (pow_nn _)
theorem sort_ex (h : Int → Int) : ∀ L : List Int, ∃ M : List Int, M.Perm L ∧ M.Pairwise fun x y => h x ≤ h y
  | [] => ⟨[], .refl _, List.Pairwise.nil⟩
  | x :: L => by
    obtain ⟨M, pm, hs⟩ := sort_ex h L
    refine ⟨M.filter (fun y => decide (h y < h x)) ++ x :: M.filter (fun y => !decide (h y < h x)), ?_, ?_⟩
    · exact List.perm_middle.trans (((List.filter_append_perm _ M).trans pm).cons x)
    · refine List.pairwise_append.mpr ⟨hs.filter _, List.pairwise_cons.mpr ⟨fun y hy => ?_, hs.filter _⟩, fun y hy z hz => ?_⟩
      · have := (List.mem_filter.mp hy).2
        simp at this
        exact this
      · have h1 := of_decide_eq_true (List.mem_filter.mp hy).2
        rcases List.mem_cons.mp hz with rfl | hz
        · omega
        · have := (List.mem_filter.mp hz).2
          simp at this
          omega
/-- the beginning p, of the first ties, goes on to a rank by which s alone is a spring -/
def Goes (w : Web) (s : Int) (ts : List (Int × Int)) (p : List Int) : Prop := ∃ h, (NE w h ∧ Sr w s h) ∧ ∀ t ∈ arw ⟨w.n, ts⟩ p, h t.1 < h t.2
/-- is tells the sets that lead to each place -/
def IntoOk (n : Int) (ts : List (Int × Int)) (p is : List Int) : Prop := (is.length : Int) = n ∧ (∀ x ∈ is, 0 ≤ x) ∧ ∀ x, 0 ≤ x → x < n → ∀ y, 0 ≤ y → (tb (gI is x) y = true ↔ (y, x) ∈ arw ⟨n, ts⟩ p)
theorem idx_app {pre post : List Int} {x : Int} (nd : (pre ++ x :: post).Nodup) : (pre ++ x :: post).idxOf x = pre.length := by
  have hx : x ∉ pre := fun h => (List.nodup_append.mp nd).2.2 x h x (by simp) rfl
  rw [List.idxOf_append, if_neg hx]
  simp
theorem can_goes {w : Web} (o : w.ok) {s : Int} (s0 : 0 ≤ s) (s1 : s < w.n) {ts : List (Int × Int)} {p is : List Int} (hin : IntoOk w.n ts p is) (hsub : ∀ t ∈ arw ⟨w.n, ts⟩ p, T w t.1 t.2) : (CanO (nsF w) is w.n.toNat s ∧ gI is s = 0) ↔ Goes w s ts p := by
  have n1 := o.n1
  have en : ((w.n.toNat : Nat) : Int) = w.n := by omega
  constructor
  · rintro ⟨⟨os, pm, ⟨r, e0⟩, gr⟩, z⟩
    rw [en] at pm
    have nd : os.Nodup := pm.nodup_iff.mpr ((ints_sorted _ _).imp fun h => by omega)
    have hm : ∀ x, x ∈ os ↔ 0 ≤ x ∧ x < w.n := fun x => by rw [pm.mem_iff, mem_ints]
    have inj : ∀ x y, x ∈ os → y ∈ os → os.idxOf x = os.idxOf y → x = y := fun x y hx hy e => by
      have h1 := List.getElem_idxOf (List.idxOf_lt_length_of_mem hx)
      have h2 := List.getElem_idxOf (List.idxOf_lt_length_of_mem hy)
      rw [← h1, ← h2]
      congr 1
    have ahead : ∀ pre x post y, os = pre ++ x :: post → y ∈ pre → os.idxOf y < os.idxOf x := fun pre x post y e hy => by
      have h1 : os.idxOf x = pre.length := by rw [e]; exact idx_app (by rw [← e]; exact nd)
      have h2 : os.idxOf y = pre.idxOf y := by rw [e, List.idxOf_append, if_pos hy]
      have := List.idxOf_lt_length_of_mem hy
      omega
    have hs0 : os.idxOf s = 0 := by rw [e0]; simp
    refine ⟨fun x => (os.idxOf x : Int), ⟨NE_T.mpr fun x y t e => ?_, fun y t => ?_, fun x x0 x1 ne => ?_⟩, fun t ht => ?_⟩
    · have hr := T_rg o t
      have := inj x y ((hm x).mpr hr.1) ((hm y).mpr hr.2) (by omega)
      subst this
      exact T_irr (wf_of o) t
    · have hr := T_rg o t
      have : os.idxOf y ≠ 0 := fun e => by
        have := inj y s ((hm y).mpr hr.2) ((hm s).mpr ⟨s0, s1⟩) (by omega)
        subst this
        exact T_irr (wf_of o) t
      show (os.idxOf s : Int) < (os.idxOf y : Int)
      omega
    · obtain ⟨pre, post, e⟩ := List.append_of_mem ((hm x).mpr ⟨x0, x1⟩)
      obtain ⟨⟨y, hy, tt⟩, _⟩ := gr pre x post e ne
      have hyr := (hm y).mp (by rw [e]; simp [hy])
      refine ⟨y, (ns_tb o x0 x1 hyr.1).mp tt, ?_⟩
      have := ahead pre x post y e hy
      show (os.idxOf y : Int) < (os.idxOf x : Int)
      omega
    · obtain ⟨y, x⟩ := t
      have hT := hsub _ ht
      have hr := T_rg o hT
      have hb := (hin.2.2 x hr.2.1 hr.2.2 y hr.1.1).mpr ht
      have ne : x ≠ s := fun e => by
        subst e
        rw [z, tb_zero] at hb
        cases hb
      obtain ⟨pre, post, e⟩ := List.append_of_mem ((hm x).mpr hr.2)
      obtain ⟨_, q⟩ := gr pre x post e ne
      have := ahead pre x post y e (q y hr.1.1 hb)
      show (os.idxOf y : Int) < (os.idxOf x : Int)
      omega
  · rintro ⟨h, ⟨n, sr⟩, ha⟩
    -- places by rank, s ahead
    have hz : gI is s = 0 := by
      have hg := gI_nn hin.2.1 s0 (by rw [hin.1]; exact s1)
      apply Classical.byContradiction
      intro c
      obtain ⟨i, hi⟩ := Nat.exists_testBit_of_ne_zero (show (gI is s).toNat ≠ 0 by omega)
      have hb : tb (gI is s) (i : Int) = true := by unfold tb; rw [Int.toNat_natCast]; exact hi
      have h1 := (hin.2.2 s s0 s1 (i : Int) (by omega)).mp hb
      have h2 := ha _ h1
      have h3 := sr.1 _ (T_rev (hsub _ h1))
      simp only at h2 h3
      omega
    refine ⟨?_, hz⟩
    rw [CanO, en]
    obtain ⟨M, pm, hs⟩ := sort_ex h ((irng 0 w.n).filter fun x => decide (x ≠ s))
    have hm : ∀ x, x ∈ M ↔ (0 ≤ x ∧ x < w.n) ∧ x ≠ s := fun x => by rw [pm.mem_iff, List.mem_filter, mem_ints, decide_eq_true_eq]
    have nd : M.Nodup := pm.nodup_iff.mpr (((ints_sorted _ _).imp fun h => by omega : (irng 0 w.n).Nodup).filter _)
    have hpw : (s :: M).Pairwise fun x y => x = s ∨ h x ≤ h y := List.pairwise_cons.mpr ⟨fun y _ => .inl rfl, hs.imp fun q => .inr q⟩
    have hall : ∀ x, 0 ≤ x → x < w.n → x ∈ s :: M := fun x x0 x1 => by
      by_cases c : x = s
      · rw [c]; simp
      · exact List.mem_cons_of_mem _ ((hm x).mpr ⟨⟨x0, x1⟩, c⟩)
    refine ⟨s :: M, (List.perm_ext_iff_of_nodup (List.nodup_cons.mpr ⟨fun c => ((hm s).mp c).2 rfl, nd⟩) ((ints_sorted _ _).imp fun h => by omega)).mpr fun x => ?_, ⟨M, rfl⟩, fun pre x post e ne => ?_⟩
    · rw [mem_ints, List.mem_cons]
      constructor
      · rintro (rfl | c)
        · exact ⟨s0, s1⟩
        · exact ((hm x).mp c).1
      · intro c; exact List.mem_cons.mp (hall x c.1 c.2)
    · have hx : 0 ≤ x ∧ x < w.n := by
        have : x ∈ s :: M := by rw [e]; simp
        rcases List.mem_cons.mp this with c | c
        · exact absurd c ne
        · exact ((hm x).mp c).1
      have low : ∀ y, 0 ≤ y → y < w.n → h y < h x → y ∈ pre := fun y y0 y1 c => by
        have hy := hall y y0 y1
        rw [e] at hy hpw
        rcases List.mem_append.mp hy with hy | hy
        · exact hy
        · exfalso
          rcases List.mem_cons.mp hy with rfl | hy
          · omega
          · rcases (List.pairwise_cons.mp (List.pairwise_append.mp hpw).2.1).1 y hy with c2 | c2
            · exact ne c2
            · omega
      refine ⟨?_, fun y y0 tt => ?_⟩
      · obtain ⟨y, t, c⟩ := sr.2 x hx.1 hx.2 ne
        have hy := (T_rg o t).2
        exact ⟨y, low y hy.1 hy.2 c, (ns_tb o hx.1 hx.2 hy.1).mpr t⟩
      · have h1 := (hin.2.2 x hx.1 hx.2 y y0).mp tt
        have h2 := hsub _ h1
        have h3 := ha _ h1
        simp only at h2 h3
        exact low y y0 (T_rg o h2).1.2 h3
end Lib
end G7

set_option maxRecDepth 100000
namespace G7
open PySem
namespace Lib
def bt (S : Nat) (x : Int) : Bool := S.testBit x.toNat
def subW (w : Web) (S : Nat) : Web := ⟨w.n, w.ts.filter fun t => bt S t.1 && bt S t.2⟩
theorem sub_ok {w : Web} (o : w.ok) (S : Nat) : (subW w S).ok := ⟨o.n1, o.n9, Nat.le_trans (List.length_filter_le _ _) o.len, fun t ht => o.rg t (List.mem_filter.mp ht).1, o.srt.filter _⟩
theorem mem_sub {w : Web} {S : Nat} {t : Int × Int} : t ∈ (subW w S).ts ↔ t ∈ w.ts ∧ bt S t.1 = true ∧ bt S t.2 = true := by
  show t ∈ w.ts.filter _ ↔ _
  rw [List.mem_filter, Bool.and_eq_true]
theorem sub_T {w : Web} {S : Nat} {x y : Int} : T (subW w S) x y ↔ T w x y ∧ bt S x = true ∧ bt S y = true := by
  unfold T
  rw [mem_sub, mem_sub]
  constructor
  · rintro (⟨h, a, b⟩ | ⟨h, a, b⟩)
    · exact ⟨.inl h, a, b⟩
    · exact ⟨.inr h, b, a⟩
  · rintro ⟨h | h, a, b⟩
    · exact .inl ⟨h, a, b⟩
    · exact .inr ⟨h, b, a⟩
/-- no tie within -/
def indB (w : Web) (Q : Nat) : Bool := w.ts.all fun t => !(bt Q t.1 && bt Q t.2)
theorem indB_iff {w : Web} {Q : Nat} : indB w Q = true ↔ ∀ x y, T w x y → ¬ (bt Q x = true ∧ bt Q y = true) := by
  unfold indB
  rw [List.all_eq_true]
  constructor
  · rintro h x y (t | t) ⟨a, b⟩
    · have := h _ t; simp [a, b] at this
    · have := h _ t; simp [a, b] at this
  · intro h t ht
    have := h t.1 t.2 (.inl ht)
    cases a : bt Q t.1 <;> cases b : bt Q t.2 <;> simp [a, b] at this ⊢
/-- no arrow ends in Q -/
def srcB (v : Web) (Q : Nat) (p : List Int) : Bool := (arw v p).all fun a => !bt Q a.2
theorem src_ptg {v : Web} {Q : Nat} {h : Int → Int} (n : NE v h) : srcB v Q (ptg v h) = true ↔ ∀ x y, T v x y → bt Q x = true → h x < h y := by
  have em : arw v (ptg v h) = v.ts.map fun t => if h t.1 < h t.2 then t else (t.2, t.1) := by
    unfold ptg
    rw [arw_map]
    refine List.map_congr_left fun t _ => ?_
    by_cases c : h t.1 < h t.2 <;> simp [c]
  unfold srcB
  rw [em, List.all_eq_true]
  constructor
  · rintro k x y (t | t) hx
    · have := k _ (List.mem_map.mpr ⟨_, t, rfl⟩)
      simp only at this
      by_cases c : h x < h y
      · exact c
      · rw [if_neg c] at this
        simp [hx] at this
    · have := k _ (List.mem_map.mpr ⟨_, t, rfl⟩)
      simp only at this
      by_cases c : h y < h x
      · rw [if_pos c] at this
        simp [hx] at this
      · have := n _ t
        simp only at this
        omega
  · intro k a ha
    obtain ⟨t, ht, rfl⟩ := List.mem_map.mp ha
    by_cases c : h t.1 < h t.2
    · rw [if_pos c]
      cases b : bt Q t.2 with
      | false => rfl
      | true =>
        have := k t.2 t.1 (.inr ht) b
        omega
    · rw [if_neg c]
      cases b : bt Q t.1 with
      | false => simp [b]
      | true =>
        have := k t.1 t.2 (.inl ht) b
        omega
theorem lowZ_ex (h : Int → Int) : ∀ l : List Int, ∃ m : Int, ∀ y ∈ l, m < h y
  | [] => ⟨0, by simp⟩
  | y :: l => by
    obtain ⟨m, hm⟩ := lowZ_ex h l
    refine ⟨min m (h y - 1), fun z hz => ?_⟩
    rcases List.mem_cons.mp hz with rfl | hz
    · omega
    · have := hm z hz; omega
/-- the falls of S in which all places of Q are springs are those of the rest -/
theorem src_count {w : Web} (o : w.ok) {S Q R : Nat} (sub : ∀ x, bt Q x = true → bt S x = true) (hR : ∀ x, bt R x = (bt S x && !bt Q x)) (ind : indB w Q = true) :
    ((fallsL (subW w S)).filter (srcB (subW w S) Q)).length = (fallsL (subW w R)).length := by
  classical
  have oS := sub_ok o S
  have oR := sub_ok o R
  have hi := indB_iff.mp ind
  have hL : ∀ p, p ∈ (fallsL (subW w S)).filter (srcB (subW w S) Q) ↔ ∃ h, (NE (subW w S) h ∧ ∀ x y, T (subW w S) x y → bt Q x = true → h x < h y) ∧ p = ptg (subW w S) h := fun p => by
    rw [List.mem_filter, mem_F oS]
    constructor
    · rintro ⟨⟨h, n, rfl⟩, s⟩
      exact ⟨h, ⟨n, (src_ptg n).mp s⟩, rfl⟩
    · rintro ⟨h, ⟨n, s⟩, rfl⟩
      exact ⟨⟨h, n, rfl⟩, (src_ptg n).mpr s⟩
  have hM : ∀ p, p ∈ fallsL (subW w R) ↔ ∃ h, NE (subW w R) h ∧ p = ptg (subW w R) h := fun p => mem_F oR
  have kind : ∀ t ∈ (subW w S).ts, (t ∈ (subW w R).ts ∧ bt Q t.1 = false ∧ bt Q t.2 = false) ∨ (bt Q t.1 = true ∧ bt Q t.2 = false) ∨ (bt Q t.1 = false ∧ bt Q t.2 = true) := fun t ht => by
    obtain ⟨h1, h2, h3⟩ := mem_sub.mp ht
    have h4 := hi t.1 t.2 (.inl h1)
    cases a : bt Q t.1 <;> cases b : bt Q t.2
    · exact .inl ⟨mem_sub.mpr ⟨h1, by rw [hR, h2, a]; rfl, by rw [hR, h3, b]; rfl⟩, rfl, rfl⟩
    · exact .inr (.inr ⟨rfl, rfl⟩)
    · exact .inr (.inl ⟨rfl, rfl⟩)
    · exact absurd ⟨a, b⟩ h4
  have out : ∀ t ∈ (subW w R).ts, t ∈ (subW w S).ts ∧ bt Q t.1 = false ∧ bt Q t.2 = false := fun t ht => by
    obtain ⟨h1, h2, h3⟩ := mem_sub.mp ht
    rw [hR] at h2 h3
    simp only [Bool.and_eq_true, Bool.not_eq_true'] at h2 h3
    exact ⟨mem_sub.mpr ⟨h1, h2.1, h3.1⟩, h2.2, h3.2⟩
  refine Nat.le_antisymm ?_ ?_
  · refine rank_le ((fallsL_nd oS).filter _) hL hM (fun h => h) (fun h hh t ht => hh.1 t (out t ht).1) fun h g hh hg e => ?_
    rw [ptg_eq] at e ⊢
    intro t ht
    rcases kind t ht with ⟨k, _, _⟩ | ⟨k, _⟩ | ⟨_, k⟩
    · exact e t k
    · have a := hh.2 t.1 t.2 (.inl ht) k
      have b := hg.2 t.1 t.2 (.inl ht) k
      exact ⟨fun _ => b, fun _ => a⟩
    · have a := hh.2 t.2 t.1 (.inr ht) k
      have b := hg.2 t.2 t.1 (.inr ht) k
      omega
  · let c : (Int → Int) → Int := fun h => Classical.choose (lowZ_ex h (irng 0 w.n))
    have hc : ∀ h x, 0 ≤ x → x < w.n → c h < h x := fun h x x0 x1 => Classical.choose_spec (lowZ_ex h (irng 0 w.n)) x (mem_ints.mpr ⟨x0, x1⟩)
    have rg : ∀ t ∈ (subW w S).ts, (0 ≤ t.1 ∧ t.1 < w.n) ∧ 0 ≤ t.2 ∧ t.2 < w.n := fun t ht => by
      have := o.rg t (mem_sub.mp ht).1
      omega
    refine rank_le (fallsL_nd oR) hM hL (fun h x => if bt Q x = true then c h else h x) (fun h hh => ⟨fun t ht => ?_, fun x y t hx => ?_⟩) fun h g hh hg e => ?_
    · have r := rg t ht
      rcases kind t ht with ⟨k, a, b⟩ | ⟨a, b⟩ | ⟨a, b⟩
      · simp only [a, b]
        exact hh t k
      · simp only [a, b]
        have := hc h t.2 r.2.1 r.2.2
        simp; omega
      · simp only [a, b]
        have := hc h t.1 r.1.1 r.1.2
        simp; omega
    · have hy : bt Q y = false := by
        cases b : bt Q y with
        | false => rfl
        | true => exact absurd ⟨hx, b⟩ (hi x y (sub_T.mp t).1)
      have r : 0 ≤ y ∧ y < w.n := by
        rcases t with t | t
        · exact (rg _ t).2
        · exact (rg _ t).1
      simp only [hx, hy]
      have := hc h y r.1 r.2
      simpa using this
    · rw [ptg_eq] at e ⊢
      intro t ht
      obtain ⟨k, a, b⟩ := out t ht
      have := e t k
      simpa only [a, b, Bool.false_eq_true, if_false] using this
theorem sum_exch {α β : Type} (f : α → Int) (P : α → β → Bool) (Qs : List α) : ∀ L : List β, (Qs.map fun q => f q * ((L.filter (P q)).length : Int)).sum = (L.map fun p => ((Qs.filter fun q => P q p).map f).sum).sum
  | [] => by
    have : (Qs.map fun q => f q * ((([] : List β).filter (P q)).length : Int)).sum = 0 := by
      induction Qs with
      | nil => rfl
      | cons q Qs ih => rw [List.map_cons, List.sum_cons, ih]; simp
    rw [this]; rfl
  | p :: L => by
    rw [List.map_cons, List.sum_cons, ← sum_exch f P Qs L]
    induction Qs with
    | nil => rfl
    | cons q Qs ih =>
      rw [List.map_cons, List.sum_cons, ih, List.map_cons, List.sum_cons]
      by_cases c : P q p = true
      · rw [List.filter_cons_of_pos c, List.filter_cons_of_pos (p := fun q => P q p) c, List.length_cons, List.map_cons, List.sum_cons]
        have : ((L.filter (P q)).length + 1 : Nat) = ((L.filter (P q)).length : Int) + 1 := by omega
        rw [this, Int.mul_add, Int.mul_one]
        omega
      · rw [List.filter_cons_of_neg c, List.filter_cons_of_neg (p := fun q => P q p) c]
        omega
/-- the set of places with a property, as a number -/
def mkM (P : Nat → Bool) : Nat → Nat
  | 0 => 0
  | n + 1 => mkM P n + (if P n = true then 2 ^ n else 0)
theorem mkM_lt (P : Nat → Bool) : ∀ n, mkM P n < 2 ^ n
  | 0 => by simp [mkM]
  | n + 1 => by
    have := mkM_lt P n
    unfold mkM
    rw [Nat.pow_succ]
    split <;> omega
theorem mkM_bit (P : Nat → Bool) : ∀ n i, (mkM P n).testBit i = (decide (i < n) && P i)
  | 0, i => by simp [mkM]
  | n + 1, i => by
    have hl := mkM_lt P n
    have ih := mkM_bit P n i
    unfold mkM
    by_cases c : P n = true
    · rw [if_pos c, Nat.add_comm]
      by_cases d : i = n
      · subst d
        rw [Nat.testBit_two_pow_add_eq, Nat.testBit_lt_two_pow hl]
        simp [c]
      · by_cases e : i < n
        · rw [Nat.testBit_two_pow_add_gt e, ih]
          simp [e, Nat.lt_succ_of_lt e]
        · have : 2 ^ n + mkM P n < 2 ^ i := by
            have : 2 ^ (n + 1) ≤ 2 ^ i := Nat.pow_le_pow_right (by omega) (by omega)
            rw [Nat.pow_succ] at this
            omega
          rw [Nat.testBit_lt_two_pow this]
          have : ¬ i < n + 1 := by omega
          simp [this]
    · rw [if_neg c, Nat.add_zero, ih]
      by_cases d : i = n
      · subst d; simp [c]
      · have : (i < n) = (i < n + 1) := by
          simp only [eq_iff_iff]; omega
        simp only [this]
theorem and_sub {q m : Nat} : q &&& m = q ↔ ∀ i, q.testBit i = true → m.testBit i = true := by
  constructor
  · intro h i hi
    have := Nat.testBit_and q m i
    rw [h, hi, Bool.true_and] at this
    exact this.symm
  · intro h
    refine Nat.eq_of_testBit_eq fun i => ?_
    rw [Nat.testBit_and]
    cases c : q.testBit i with
    | false => rfl
    | true => rw [h i c]; rfl
/-- the sets within S -/
def subZL (S : Nat) : List Nat := (List.range 512).filter fun q => q &&& S == q
theorem mem_subZ {S q : Nat} (h : S < 512) : q ∈ subZL S ↔ q &&& S = q := by
  unfold subZL
  rw [List.mem_filter, List.mem_range, beq_iff_eq]
  constructor
  · exact fun h => h.2
  · intro h
    refine ⟨?_, h⟩
    have := Nat.and_le_right (n := q) (m := S)
    omega
/-- INCLUSION AND EXCLUSION -/
theorem ie_sum {w : Web} (o : w.ok) (f : Nat → Int) {S : Nat} (hS : S < 2 ^ w.n.toNat) :
    (((subZL S).filter (indB w)).map fun q => f q * ((fallsL (subW w (S ^^^ q))).length : Int)).sum = ((fallsL (subW w S)).map fun p => ((subZL (mkM (fun i => S.testBit i && srcB (subW w S) (2 ^ i) p) w.n.toNat)).map f).sum).sum := by
  have oS := sub_ok o S
  have n9 := o.n9
  have hS5 : S < 512 := Nat.lt_of_lt_of_le hS (Nat.pow_le_pow_right (by omega) (show w.n.toNat ≤ 9 by omega))
  have e1 : (((subZL S).filter (indB w)).map fun q => f q * ((fallsL (subW w (S ^^^ q))).length : Int)) = ((subZL S).filter (indB w)).map fun q => f q * (((fallsL (subW w S)).filter (srcB (subW w S) q)).length : Int) := by
    refine List.map_congr_left fun q hq => ?_
    obtain ⟨h1, h2⟩ := List.mem_filter.mp hq
    have h1 := and_sub.mp ((mem_subZ hS5).mp h1)
    rw [src_count o (R := S ^^^ q) (fun x hx => h1 _ hx) (fun x => ?_) h2]
    unfold bt
    rw [Nat.testBit_xor]
    have := h1 x.toNat
    cases a : S.testBit x.toNat <;> cases b : q.testBit x.toNat <;> simp [a, b] at this ⊢
  rw [e1, sum_exch]
  congr 1
  refine List.map_congr_left fun p hp => ?_
  have hpp := ((fallsL_mem oS).mp hp).1
  congr 2
  generalize hm : mkM (fun i => S.testBit i && srcB (subW w S) (2 ^ i) p) w.n.toNat = m
  have bit : ∀ i, m.testBit i = (decide (i < w.n.toNat) && (S.testBit i && srcB (subW w S) (2 ^ i) p)) := fun i => by rw [← hm, mkM_bit]
  have mS : ∀ i, m.testBit i = true → S.testBit i = true := fun i hi => by
    rw [bit] at hi
    simp only [Bool.and_eq_true] at hi
    exact hi.2.1
  have key : ∀ q, (q &&& S = q ∧ indB w q = true) ∧ srcB (subW w S) q p = true ↔ q &&& m = q := fun q => by
    constructor
    · rintro ⟨⟨h1, _⟩, h2⟩
      refine and_sub.mpr fun i hi => ?_
      have h3 := and_sub.mp h1 i hi
      have hin : i < w.n.toNat := by
        apply Classical.byContradiction
        intro c
        have : S < 2 ^ i := Nat.lt_of_lt_of_le hS (Nat.pow_le_pow_right (by omega) (by omega))
        rw [Nat.testBit_lt_two_pow this] at h3
        cases h3
      rw [bit, decide_eq_true hin, h3, Bool.true_and, Bool.true_and]
      unfold srcB at h2 ⊢
      rw [List.all_eq_true] at h2 ⊢
      intro a ha
      have := h2 a ha
      cases b : bt (2 ^ i) a.2 with
      | false => rfl
      | true =>
        unfold bt at b this
        rw [Nat.testBit_two_pow] at b
        have b := of_decide_eq_true b
        rw [← b, hi] at this
        cases this
    · intro h
      have h := and_sub.mp h
      have src : srcB (subW w S) q p = true := by
        unfold srcB
        rw [List.all_eq_true]
        intro a ha
        cases b : bt q a.2 with
        | false => rfl
        | true =>
          have := h _ b
          rw [bit] at this
          simp only [Bool.and_eq_true] at this
          have h4 := List.all_eq_true.mp this.2.2 a ha
          unfold bt at h4
          rw [Nat.testBit_two_pow, decide_eq_true rfl] at h4
          cases h4
      refine ⟨⟨and_sub.mpr fun i hi => mS i (h i hi), indB_iff.mpr fun x y t ⟨hx, hy⟩ => ?_⟩, src⟩
      have tS : T (subW w S) x y := sub_T.mpr ⟨t, mS _ (h _ hx), mS _ (h _ hy)⟩
      unfold srcB at src
      rw [List.all_eq_true] at src
      have hor : (x, y) ∈ arw (subW w S) p ∨ (y, x) ∈ arw (subW w S) p := tS.elim (fun t => arw_tie hpp t) fun t => (arw_tie hpp t).symm
      rcases hor with c | c
      · have := src _ c; simp [hy] at this
      · have := src _ c; simp [hx] at this
  have e2 : (((subZL S).filter (indB w)).filter fun q => srcB (subW w S) q p) = subZL m := by
    unfold subZL
    rw [List.filter_filter, List.filter_filter]
    refine List.filter_congr fun q _ => ?_
    rw [Bool.eq_iff_iff]
    simp only [Bool.and_eq_true, beq_iff_eq]
    rw [← key q]
    constructor
    · rintro ⟨⟨a, b⟩, c⟩; exact ⟨⟨c, b⟩, a⟩
    · rintro ⟨⟨c, b⟩, a⟩; exact ⟨⟨a, b⟩, c⟩
  rw [e2]
end Lib
end G7

set_option maxRecDepth 100000
namespace G7
open PySem
namespace Lib
/-- (-1) ^ how many places -/
def sgF (q : Nat) : Int := (List.range 9).foldl (fun a i => if q.testBit i then -a else a) 1
def lowZG : Nat → Nat → Nat
  | 0, _ => 0
  | f + 1, q => if q % 2 = 0 then 1 + lowZG f (q / 2) else 0
def lowZF (q : Nat) : Nat := lowZG 9 q
def f1 (q : Nat) : Int := if q = 0 then 0 else -sgF q
theorem d_one : ((List.range 512).all fun m => m == 0 || decide (((subZL m).map f1).sum = 1)) = true := by decide +kernel
theorem one_sum {m : Nat} (h0 : m ≠ 0) (h : m < 512) : ((subZL m).map f1).sum = 1 := by
  have := List.all_eq_true.mp d_one m (List.mem_range.mpr h)
  simp only [Bool.or_eq_true, beq_iff_eq, decide_eq_true_eq] at this
  exact this.resolve_left h0
/-- parts of S by and: S, the next lesser one, .. -/
def walkL : Nat → Nat → Nat → List Nat
  | 0, _, _ => []
  | f + 1, p, S => if p = 0 then [] else p :: walkL f ((p - 1) &&& S) S
theorem d_walk : ((List.range 512).all fun S => decide (walkL 512 S S = ((subZL S).filter (· ≠ 0)).reverse)) = true := by decide +kernel
theorem walk_all {S : Nat} (h : S < 512) : walkL 512 S S = ((subZL S).filter (· ≠ 0)).reverse := of_decide_eq_true (List.all_eq_true.mp d_walk S (List.mem_range.mpr h))
theorem d_xor : ((List.range 512).all fun S => (subZL S).all fun q => decide (S - q = S ^^^ q)) = true := by decide +kernel
theorem sub_xor {S q : Nat} (h : S < 512) (hq : q ∈ subZL S) : S - q = S ^^^ q := of_decide_eq_true (List.all_eq_true.mp (List.all_eq_true.mp d_xor S (List.mem_range.mpr h)) q hq)
theorem d_low : ((List.range 512).all fun q => q == 0 || (decide (lowZF q < 9 ∧ 2 ^ lowZF q ≤ q ∧ sgF q = -sgF (q - 2 ^ lowZF q) ∧ q.testBit (lowZF q) = true) && (List.range 9).all fun i => (q - 2 ^ lowZF q).testBit i == (q.testBit i && i != lowZF q))) = true := by decide +kernel
theorem low_all {q : Nat} (h0 : q ≠ 0) (h : q < 512) : (lowZF q < 9 ∧ 2 ^ lowZF q ≤ q ∧ sgF q = -sgF (q - 2 ^ lowZF q) ∧ q.testBit (lowZF q) = true) ∧ ∀ i, (q - 2 ^ lowZF q).testBit i = (q.testBit i && i != lowZF q) := by
  have := List.all_eq_true.mp d_low q (List.mem_range.mpr h)
  simp only [Bool.or_eq_true, beq_iff_eq, Bool.and_eq_true, decide_eq_true_eq, List.all_eq_true] at this
  obtain ⟨h1, h2⟩ := this.resolve_left h0
  refine ⟨h1, fun i => ?_⟩
  by_cases c : i < 9
  · have := h2 i (List.mem_range.mpr c)
    simpa using this
  · have e : ∀ x : Nat, x < 512 → x.testBit i = false := fun x hx => Nat.testBit_lt_two_pow (Nat.lt_of_lt_of_le hx (Nat.pow_le_pow_right (n := 2) (by omega) (show 9 ≤ i by omega)))
    rw [e _ (Nat.lt_of_le_of_lt (Nat.sub_le _ _) h), e _ h]; rfl
end Lib
end G7

set_option maxRecDepth 100000
namespace G7
open PySem
namespace Lib
end Lib
end G7

set_option maxRecDepth 100000
namespace G7
open PySem
namespace Lib
/-- how many falls the ties within S have -/
noncomputable def cntA (w : Web) (S : Nat) : Int := ((fallsL (subW w S)).length : Int)
theorem cnt_0 {w : Web} (o : w.ok) : cntA w 0 = 1 := by
  have e : (subW w 0).ts = [] := by
    show w.ts.filter _ = []
    rw [List.filter_eq_nil_iff]
    intro t _
    simp [bt]
  unfold cntA fallsL
  rw [e]
  have : (tsort ((growA (subW w 0).n []).map Prod.fst)).length = ((growA (subW w 0).n []).map Prod.fst).length := (tsort_perm _).length_eq
  rw [this]
  rfl
theorem cnt_all {w : Web} (o : w.ok) : cntA w (2 ^ w.n.toNat - 1) = ((fallsL w).length : Int) := by
  have e : (subW w (2 ^ w.n.toNat - 1)) = w := by
    have : (w.ts.filter fun t => bt (2 ^ w.n.toNat - 1) t.1 && bt (2 ^ w.n.toNat - 1) t.2) = w.ts := by
      rw [List.filter_eq_self]
      intro t ht
      have := o.rg t ht
      unfold bt
      rw [Nat.testBit_two_pow_sub_one, Nat.testBit_two_pow_sub_one, Bool.and_eq_true]
      exact ⟨decide_eq_true (by omega), decide_eq_true (by omega)⟩
    unfold subW
    rw [this]
  unfold cntA
  rw [e]
/-- the places that are springs of a fall of S, as a set -/
abbrev srcM (w : Web) (S : Nat) (p : List Int) : Nat := mkM (fun i => S.testBit i && srcB (subW w S) (2 ^ i) p) w.n.toNat
theorem src_bit {v : Web} {i : Nat} {p : List Int} : srcB v (2 ^ i) p = true ↔ ∀ a ∈ arw v p, a.2.toNat ≠ i := by
  unfold srcB
  rw [List.all_eq_true]
  constructor
  · intro h a ha e
    have := h a ha
    unfold bt at this
    rw [Nat.testBit_two_pow, e] at this
    simp at this
  · intro h a ha
    unfold bt
    rw [Nat.testBit_two_pow, decide_eq_false (fun e => h a ha e.symm)]
    rfl
theorem src_ne {w : Web} (o : w.ok) {S : Nat} (h0 : S ≠ 0) (hS : S < 2 ^ w.n.toNat) {p : List Int} (hp : p ∈ fallsL (subW w S)) : srcM w S p ≠ 0 := by
  have oS := sub_ok o S
  obtain ⟨hpp, ac⟩ := (fallsL_mem oS).mp hp
  obtain ⟨i0, hi0⟩ : ∃ i, S.testBit i = true := by
    apply Classical.byContradiction
    intro c
    refine h0 (Nat.eq_of_testBit_eq fun i => ?_)
    rw [Nat.zero_testBit]
    cases b : S.testBit i with
    | false => rfl
    | true => exact absurd ⟨i, b⟩ c
  have inr : ∀ i, S.testBit i = true → i < w.n.toNat := fun i hi => by
    apply Classical.byContradiction
    intro c
    have : S < 2 ^ i := Nat.lt_of_lt_of_le hS (Nat.pow_le_pow_right (by omega) (by omega))
    rw [Nat.testBit_lt_two_pow this] at hi
    cases hi
  have ne : ((irng 0 w.n).filter fun x => bt S x) ≠ [] := fun c => by
    have : (i0 : Int) ∈ (irng 0 w.n).filter fun x => bt S x := List.mem_filter.mpr ⟨mem_ints.mpr ⟨by omega, by have := inr i0 hi0; omega⟩, hi0⟩
    rw [c] at this
    simp at this
  obtain ⟨x, hx, hs⟩ := ac.stuck ne
  obtain ⟨hx1, hx2⟩ := List.mem_filter.mp hx
  have hx1 := mem_ints.mp hx1
  intro c
  have hb : (srcM w S p).testBit x.toNat = true := by
    rw [mkM_bit, decide_eq_true (by omega), Bool.true_and, Bool.and_eq_true]
    refine ⟨hx2, src_bit.mpr fun a ha e => ?_⟩
    have hT := sub_T.mp (arw_T hpp ha)
    have hr : (0 ≤ a.1 ∧ a.1 < w.n) ∧ 0 ≤ a.2 ∧ a.2 < w.n := by
      rcases hT.1 with t | t
      · have := o.rg _ t; simp only at this; omega
      · have := o.rg _ t; simp only at this; omega
    have e2 : a.2 = x := by omega
    refine hs a.1 (List.mem_filter.mpr ⟨mem_ints.mpr hr.1, hT.2.1⟩) ?_
    rw [← e2]
    exact ha
  rw [c, Nat.zero_testBit] at hb
  cases hb
theorem srcM_lt {w : Web} (o : w.ok) (S : Nat) (p : List Int) : srcM w S p < 512 := Nat.lt_of_lt_of_le (mkM_lt _ _) (Nat.pow_le_pow_right (n := 2) (by omega) (show w.n.toNat ≤ 9 by have := o.n9; omega))
/-- as many as by the springs -/
theorem cnt_rec {w : Web} (o : w.ok) {S : Nat} (h0 : S ≠ 0) (hS : S < 2 ^ w.n.toNat) : (((subZL S).filter (indB w)).map fun q => f1 q * cntA w (S ^^^ q)).sum = cntA w S := by
  have h := ie_sum o f1 hS
  unfold cntA
  rw [h]
  have e : ((fallsL (subW w S)).map fun p => ((subZL (srcM w S p)).map f1).sum) = (fallsL (subW w S)).map fun _ => (1 : Int) := List.map_congr_left fun p hp => one_sum (src_ne o h0 hS hp) (srcM_lt o S p)
  have e2 : ∀ L : List (List Int), (L.map fun _ => (1 : Int)).sum = (L.length : Int) := fun L => by
    induction L with
    | nil => rfl
    | cons a L ih => rw [List.map_cons, List.sum_cons, ih, List.length_cons]; omega
  exact (congrArg List.sum e).trans (e2 _)
/-- one set's entry -/
def apV (w : Web) (q : Nat) : Int := if indB w q = true then sgF q else 0
theorem cnt_walk {w : Web} (o : w.ok) {S : Nat} (h0 : S ≠ 0) (hS : S < 2 ^ w.n.toNat) : ((walkL 512 S S).map fun q => -(apV w q * cntA w (S - q))).sum = cntA w S := by
  have n9 := o.n9
  have hS5 : S < 512 := Nat.lt_of_lt_of_le hS (Nat.pow_le_pow_right (n := 2) (by omega) (show w.n.toNat ≤ 9 by omega))
  rw [walk_all hS5, List.map_reverse, List.sum_reverse, ← cnt_rec o h0 hS]
  have key : ∀ L : List Nat, (∀ q ∈ L, q ∈ subZL S) → ((L.filter (· ≠ 0)).map fun q => -(apV w q * cntA w (S - q))).sum = ((L.filter (indB w)).map fun q => f1 q * cntA w (S ^^^ q)).sum := by
    intro L
    induction L with
    | nil => intro _; rfl
    | cons q L ih =>
      intro h
      have ih := ih fun x hx => h x (by simp [hx])
      have hx := sub_xor hS5 (h q (by simp))
      by_cases c : q = 0
      · rw [List.filter_cons_of_neg (by simp [c]), ih]
        by_cases d : indB w q = true
        · rw [List.filter_cons_of_pos d, List.map_cons, List.sum_cons, c]
          simp [f1]
        · rw [List.filter_cons_of_neg d]
      · rw [List.filter_cons_of_pos (by simp [c]), List.map_cons, List.sum_cons, ih]
        unfold apV
        by_cases d : indB w q = true
        · rw [if_pos d, List.filter_cons_of_pos d, List.map_cons, List.sum_cons, hx]
          unfold f1
          rw [if_neg c, Int.neg_mul]
        · rw [if_neg d, List.filter_cons_of_neg d]
          omega
  exact key _ fun _ h => h
theorem ind_low {w : Web} (o : w.ok) {q : Nat} (h0 : q ≠ 0) (h : q < 2 ^ w.n.toNat) : indB w q = (indB w (q - 2 ^ lowZF q) && decide (Builtin.bitAnd (gI (nsF w) (lowZF q : Int)) ((q - 2 ^ lowZF q : Nat) : Int) = 0)) := by
  have n9 := o.n9
  have hq5 : q < 512 := Nat.lt_of_lt_of_le h (Nat.pow_le_pow_right (n := 2) (by omega) (show w.n.toNat ≤ 9 by omega))
  obtain ⟨⟨l9, _, _, lb⟩, bits⟩ := low_all h0 hq5
  have ln : lowZF q < w.n.toNat := by
    apply Classical.byContradiction
    intro c
    have : q < 2 ^ lowZF q := Nat.lt_of_lt_of_le h (Nat.pow_le_pow_right (by omega) (by omega))
    rw [Nat.testBit_lt_two_pow this] at lb
    cases lb
  have gp : 0 ≤ gI (nsF w) (lowZF q : Int) := by
    rw [ns_gI (by omega) (by omega)]
    exact (pow_asc (fun y hy => (near_rg o hy).1) (near_strict o _)).1
  have ap := and_pos gp (show (0 : Int) ≤ ((q - 2 ^ lowZF q : Nat) : Int) by omega)
  have nn : 0 ≤ Builtin.bitAnd (gI (nsF w) (lowZF q : Int)) ((q - 2 ^ lowZF q : Nat) : Int) := by rw [and_nn gp (by omega)]; omega
  rw [Bool.eq_iff_iff, Bool.and_eq_true, decide_eq_true_eq, indB_iff, indB_iff]
  have tbq : ∀ i : Int, tb ((q - 2 ^ lowZF q : Nat) : Int) i = (q.testBit i.toNat && i.toNat != lowZF q) := fun i => by
    unfold tb
    rw [Int.toNat_natCast]
    exact bits _
  constructor
  · intro hi
    refine ⟨fun x y t ⟨a, b⟩ => hi x y t ⟨?_, ?_⟩, ?_⟩
    · unfold bt at a ⊢; rw [bits] at a; simp only [Bool.and_eq_true] at a; exact a.1
    · unfold bt at b ⊢; rw [bits] at b; simp only [Bool.and_eq_true] at b; exact b.1
    · apply Classical.byContradiction
      intro c
      obtain ⟨i, i0, h1, h2⟩ := ap.mp (by omega)
      rw [tbq] at h2
      simp only [Bool.and_eq_true] at h2
      exact hi _ _ ((ns_tb o (by omega) (by omega) i0).mp h1) ⟨by unfold bt; rw [Int.toNat_natCast]; exact lb, h2.1⟩
  · rintro ⟨hi, hz⟩ x y t ⟨a, b⟩
    have rg : ∀ {x y}, T w x y → (0 ≤ x ∧ x < w.n) ∧ (0 ≤ y ∧ y < w.n) ∧ x ≠ y := fun {x y} t => by
      rcases t with t | t <;> have := o.rg _ t <;> simp only at this <;> omega
    have r := rg t
    have lowx : ∀ {x y : Int}, T w x y → x.toNat = lowZF q → bt q y = true → False := fun {x y} t e hb => by
      have r := rg t
      have ex : x = (lowZF q : Int) := by omega
      have : 0 < Builtin.bitAnd (gI (nsF w) (lowZF q : Int)) ((q - 2 ^ lowZF q : Nat) : Int) := by
        refine ap.mpr ⟨y, r.2.1.1, (ns_tb o (by omega) (by omega) r.2.1.1).mpr (by rw [← ex]; exact t), ?_⟩
        rw [tbq]
        simp only [Bool.and_eq_true, bne_iff_ne]
        exact ⟨hb, by omega⟩
      omega
    by_cases c : x.toNat = lowZF q
    · exact lowx t c b
    · by_cases d : y.toNat = lowZF q
      · exact lowx (t.elim .inr .inl) d a
      · refine hi x y t ⟨?_, ?_⟩
        · unfold bt at a ⊢; rw [bits, a]; simpa using c
        · unfold bt at b ⊢; rw [bits, b]; simpa using d
theorem ind_0 (w : Web) : indB w 0 = true := indB_iff.mpr fun x y _ h => by simp [bt] at h
def apM (w : Web) (S : Nat) : Mp := ((List.range S).filter (indB w)).map fun q : Nat => ((q : Int), sgF q)
theorem ap_1 (w : Web) : apM w 1 = [(0, 1)] := by
  unfold apM
  rw [show List.range 1 = [0] from rfl, List.filter_cons_of_pos (ind_0 w)]
  rfl
theorem ap_look {w : Web} (q : Nat) : ∀ S : Nat, (apM w S).lookup (q : Int) = if q < S ∧ indB w q = true then some (sgF q) else none := by
  intro S
  unfold apM
  have key : ∀ L : List Nat, ((L.filter (indB w)).map fun q : Nat => ((q : Int), sgF q)).lookup (q : Int) = if q ∈ L ∧ indB w q = true then some (sgF q) else none := by
    intro L
    induction L with
    | nil => simp
    | cons x L ih =>
      by_cases c : indB w x = true
      · rw [List.filter_cons_of_pos c, List.map_cons]
        by_cases d : q = x
        · subst d; simp [List.lookup, c]
        · have : ((q : Int) == (x : Int)) = false := by
            rw [beq_eq_false_iff_ne]; omega
          rw [List.lookup, this]
          simp only [ih]
          simp [d]
      · rw [List.filter_cons_of_neg c, ih]
        by_cases d : q = x
        · subst d; simp [c]
        · simp [d]
  rw [key]
  simp only [List.mem_range]
theorem ap_len (w : Web) (S : Nat) : (apM w S).length ≤ S := by
  unfold apM
  rw [List.length_map]
  exact Nat.le_trans (List.length_filter_le _ _) (by rw [List.length_range]; exact Nat.le_refl _)
theorem ap_next {w : Web} {S : Nat} : apM w (S + 1) = if indB w S = true then mput (apM w S) (S : Int) (sgF S) else apM w S := by
  have e : apM w (S + 1) = apM w S ++ (([S].filter (indB w)).map fun q : Nat => ((q : Int), sgF q)) := by
    unfold apM
    rw [List.range_succ, List.filter_append, List.map_append]
  rw [e]
  by_cases c : indB w S = true
  · rw [if_pos c, List.filter_cons_of_pos c]
    unfold mput
    have hno : ¬ (S < S ∧ indB w S = true) := fun h => absurd h.1 (Nat.lt_irrefl _)
    rw [ap_look, if_neg hno]
    simp
  · rw [if_neg c, List.filter_cons_of_neg c]
    simp
end Lib
end G7

set_option maxRecDepth 100000
namespace G7
open PySem

local macro_rules | `(tactic| walk_at "op") => `(tactic| first
  | with_reducible exact addD_i _ _ | with_reducible exact subD_i _ _ | with_reducible exact ltD_i _ _ | with_reducible exact leD_i _ _ | with_reducible exact gtD_i _ _ | with_reducible exact geD_i _ _
  | with_reducible exact eqD_i _ _ | with_reducible exact neD_i _ _ | with_reducible exact lenD_lm | with_reducible exact lenD_tm | with_reducible exact lenD_l _ | with_reducible exact lenD_t _ | with_reducible exact dP_0 _ | with_reducible exact dP_1 _
  | with_reducible exact ixD_t0 _ _ | with_reducible exact ixD_t1 _ _ _ | with_reducible exact ixD_t2 _ _ _ _ | with_reducible exact ixD_l0 _ _ | with_reducible exact ixD_l0m | with_reducible exact ixD_t0m | exact eqD_sT | exact eqD_sF | exact neD_sT | exact neD_sF | with_reducible exact ixD_l1 _ _ _
  | with_reducible exact Lib.dW_0 _ | with_reducible exact Lib.dW_1 _ | with_reducible exact tupD_l _ | with_reducible exact tupD_t _ | with_reducible exact lstD_l _ | with_reducible exact lstD_t _ | with_reducible exact max2D_i _ _ | with_reducible exact min2D_i _ _
  | with_reducible exact isTD_i | with_reducible exact revT_m | with_reducible exact slL_m1 | with_reducible exact tupRevD_m | ((with_reducible refine' indexD_li ?_); with_reducible assumption) | ((with_reducible refine' indexD_xi ?_); with_reducible assumption) | ((with_reducible refine' Lib.indexD_Xi ?_); with_reducible assumption) | with_reducible exact isTD_s _ _ | with_reducible exact powD_6 | with_reducible exact powD_16 | with_reducible exact powD_18 | with_reducible exact isTD_t _ _ | with_reducible exact isTD_l _ _ | with_reducible exact isTD_b _ _ | with_reducible exact isTD_n _ | with_reducible exact isD_bb _ _ | with_reducible exact isNotD_bb _ _ | with_reducible exact isD_n' () | with_reducible exact isD_lN _ | with_reducible exact isD_tN _ | with_reducible exact isNotD_lN _ | with_reducible exact isNotD_tN _ | with_reducible exact intD_b _ | with_reducible exact intD_i _ | with_reducible exact negD_i _ | with_reducible exact eqD_b _ _ | with_reducible exact neD_b _ _
  | with_reducible exact neD_l0 _ | with_reducible exact eqD_l0 _ | with_reducible exact eqD_li _ _ | with_reducible exact neD_li _ _ | with_reducible exact eqD_ti _ _ | with_reducible exact neD_ti _ _
  | with_reducible exact eqD_lp _ _ | with_reducible exact neD_lp _ _ | with_reducible exact eqD_tp _ _ | with_reducible exact neD_tp _ _
  | with_reducible exact inD_li _ _ | with_reducible exact inD_ti _ _ | with_reducible exact notInD_li _ _ | with_reducible exact notInD_ti _ _ | with_reducible exact inD_lp _ _ | with_reducible exact inD_tp _ _
  | with_reducible exact notInD_lp _ _ | with_reducible exact notInD_tp _ _ | with_reducible exact inD_lp' _ _ _ | with_reducible exact inD_tp' _ _ _ | with_reducible exact notInD_lp' _ _ _ | with_reducible exact notInD_tp' _ _ _
  | with_reducible exact inD_pair _ _ _ | with_reducible exact sortedAD_i _ | with_reducible exact sortedAD_p _ | with_reducible exact allD_b _ | with_reducible exact anyD_b _
  | ((with_reducible refine' addD_1m ?_); omega) | with_reducible exact Lib.maxAD_0 _ | with_reducible exact Lib.din_dI _ _ | with_reducible exact Lib.dinTD_p _ _ | with_reducible exact Lib.dninTD_p _ _ | with_reducible exact Lib.lenTD_p _ | with_reducible exact Lib.sortTLD_p _ | with_reducible exact Lib.dnin_dI _ _ | ((with_reducible apply Lib.dget_dI); with_reducible assumption) | ((with_reducible refine' repLD_0 ?_ ?_) <;> omega) | ((with_reducible refine' slT_tom ?_); omega) | ((with_reducible refine' slT_frm ?_); omega) | ((with_reducible refine' slL_tom ?_); omega) | ((with_reducible refine' slL_frm ?_); omega) | ((with_reducible refine' modD_i ?_); omega) | ((with_reducible refine' fdivD_i ?_ ?_) <;> omega) | ((with_reducible refine' mulID_i (okMul_l ?_ ?_)) <;> omega) | ((with_reducible refine' mulID_i (okMul_r ?_ ?_)) <;> omega)
  | ((with_reducible refine' ixD_lm ?_ ?_) <;> omega) | ((with_reducible refine' ixD_tm ?_ ?_) <;> omega) | with_reducible assumption)
local macro_rules | `(tactic| walk_at "env") => `(tactic| simp only [List.set_cons_zero, List.set_cons_succ, upd, wp_cons, wp_nil, back_cons, back_nil, List.getElem?_cons_zero, List.getElem?_cons_succ, Option.getD_some, toF])
local macro_rules | `(tactic| walk_at "cond") => `(tactic| first | assumption | omega | exact rfl | (focus (simp; done)))
local macro_rules | `(tactic| walk_at "mut") => `(tactic| first | ((with_reducible refine' popAtF_m ?_ ?_) <;> omega) | ((with_reducible refine' appendF_m ?_); first | omega | (simp only [List.length_append, List.length_map, List.length_cons, List.length_nil]; omega)) | ((with_reducible refine' removeF_i ?_); (first | assumption | (simp; done))) | ((with_reducible refine' extendF_m ?_); first | omega | (simp only [List.length_append, List.length_map, List.length_cons, List.length_nil]; omega)))
local macro_rules | `(tactic| walk_at "s") => `(tactic| first
  | with_reducible refine' i_seq ?_ | ((with_reducible apply i_frz); (exact rfl); (first | exact nt_l | exact nt_d)) | ((with_reducible apply i_asV); (exact rfl)) | ((with_reducible apply i_asO); (exact rfl); (first | exact nt_l | exact nt_d)) | with_reducible refine' i_op2 ?_ | with_reducible refine' i_acons ?_ | with_reducible refine' i_anil ?_ | ((with_reducible apply i_var); exact rfl) | with_reducible refine' i_c ?_
  | with_reducible refine' i_asg ?_ | with_reducible refine' i_par ?_ | with_reducible refine' i_par2 ?_ | with_reducible refine' i_call ?_ | with_reducible refine' i_blt ?_ | with_reducible refine' i_op1 ?_ | with_reducible refine' i_tup ?_ | with_reducible refine' i_list ?_
  | ((with_reducible apply i_ex); walk_at "op") | ((with_reducible apply i_exk); walk_at "op")
  | with_reducible refine' i_val ?_ | with_reducible refine' i_exb ?_ | with_reducible refine' i_if ?_ | with_reducible refine' i_ret ?_ | with_reducible refine' i_nil ?_
  | with_reducible refine' i_T ?_ | with_reducible refine' i_F ?_ | with_reducible refine' i_tand ?_ | with_reducible refine' i_tor ?_ | with_reducible refine' i_tnot ?_ | with_reducible refine' i_yes ?_
  | with_reducible refine' i_and ?_ | with_reducible refine' i_or ?_ | with_reducible refine' i_not ?_ | with_reducible refine' i_ife ?_ | with_reducible refine' i_chain ?_
  | with_reducible refine' i_comp ?_ | with_reducible refine' i_iseq ?_ | with_reducible refine' i_irg1 ?_ | with_reducible refine' i_irg2 ?_ | with_reducible refine' i_izip ?_ | with_reducible refine' i_lstZ ?_ | with_reducible refine' i_lzT ?_ | with_reducible refine' i_lzL ?_ | with_reducible refine' i_disp1 ?_ | with_reducible refine' i_keyI ?_ | with_reducible refine' i_zipT ?_ | with_reducible refine' i_zipL ?_ | with_reducible refine' i_ienum ?_ | ((with_reducible apply i_enum); exact rfl) | with_reducible refine' i_irev ?_
  | with_reducible refine' i_for ?_ | with_reducible refine' i_lstrg ?_ | with_reducible refine' i_asgG ?_ | with_reducible refine' i_asgP ?_ | with_reducible refine' i_expr ?_ | with_reducible refine' i_retN ?_ | with_reducible refine' i_brk ?_ | with_reducible refine' i_cnt ?_
  | with_reducible refine' i_on ?_ | with_reducible refine' i_os ?_ | with_reducible refine' i_sl ?_ | ((with_reducible apply i_exl); exact rfl)
  | ((with_reducible refine' i_rg1 ?_ ?_); (constructor <;> omega)) | ((with_reducible refine' i_rg2 ?_ ?_); (refine ⟨?_, ?_, ?_, ?_⟩ <;> omega))
  | with_reducible refine' i_exi ?_
  | (with_reducible refine' i_len (Nat.le_of_ble_eq_true rfl) ?_)
  | ((with_reducible apply i_g); exact rfl) | ((with_reducible refine' i_plix ?_ ?_); exact rfl) | with_reducible refine' i_plset ?_ | with_reducible refine' i_np ?_
  | with_reducible refine' Lib.i_xt ?_ | with_reducible refine' Lib.i_idxX ?_ | with_reducible refine' i_idxL ?_ | with_reducible refine' i_idl ?_ | with_reducible refine' i_idx ?_
  | ((with_reducible apply i_mut1); (exact rfl); walk_at "mut")
  | ((with_reducible apply Lib.i_keysT); exact rfl) | (with_reducible refine' Lib.i_dputT ?_) | ((with_reducible apply Lib.i_dputT0); exact rfl) | ((with_reducible apply Lib.i_dputT1); (exact rfl); omega)
  | (with_reducible refine' Lib.i_dput ?_) | ((with_reducible apply Lib.i_dput0); exact rfl) | ((with_reducible apply Lib.i_dput1); (exact rfl); omega)
  | ((with_reducible refine' i_dT ?_ ?_); walk_at "cond") | ((with_reducible refine' i_dF ?_ ?_); walk_at "cond") | ((with_reducible refine' i_ndT ?_ ?_); walk_at "cond") | ((with_reducible refine' i_ndF ?_ ?_); walk_at "cond")
  | ((with_reducible refine' i_bT ?_ ?_); (first | with_reducible assumption | exact rfl)) | ((with_reducible refine' i_bF ?_ ?_); (first | with_reducible assumption | exact rfl))
  | ((with_reducible apply i_setixm); (exact rfl); omega; omega) | (with_reducible refine' i_setix ?_) | ((with_reducible apply i_setix0); exact rfl) | ((with_reducible apply i_mut); exact rfl))
local macro_rules | `(tactic| walk_at "run") => `(tactic| (repeat (walk_at "s")); try walk_at "env")
local macro_rules | `(tactic| walk_at "start") => `(tactic| simp only [startE, List.map_cons, List.map_nil, List.length_cons, List.length_nil, Nat.reduceAdd, Nat.reduceSub, Nat.zero_add, List.replicate_succ, List.replicate_zero, List.cons_append, List.nil_append])
local macro_rules | `(tactic| walk_at "len") => `(tactic| first | omega | (simp only [List.length_map, List.length_append, List.length_cons, List.length_nil]; omega) | (refine Nat.le_trans ?_ (Nat.le_refl _); have := List.length_filter_le; simp_all; done))
local macro_rules | `(tactic| walk_at "opl") => `(tactic| first | ((with_reducible refine' addD_lm ?_); walk_at "len") | ((with_reducible refine' addD_tm ?_); walk_at "len") | ((with_reducible refine' addLD_lm ?_); walk_at "len"))
/-- a comprehension: of what is walked itself, of ints, pairs, truths -/
local macro_rules | `(tactic| walk_at "comp") => `(tactic| first
  | (refine comp_fil ?_ (fun x hx => ?_) ?_; rotate_left 1; focus ((try have hx1 := Fact.use (by assumption) hx); (try have hx2 := mem_ints.mp hx); (try dsimp only at hx1); refine ⟨_, rfl, fun R hR => ?_, fun hp R hR => ?_, rfl⟩ <;> (repeat (walk_at "s")) <;> exact hR))
  | (refine comp_all (en2 := PySem.PyData.int) ?_ (fun x hx => ?_) ?_; rotate_left 1; focus ((try have hx1 := Fact.use (by assumption) hx); (try have hx2 := mem_ints.mp hx); (try dsimp only at hx1); refine ⟨_, rfl, fun R hR => ?_, rfl⟩ <;> (repeat (walk_at "s")) <;> exact hR))
  | (refine comp_all (en2 := PySem.PyData.bool) ?_ (fun x hx => ?_) ?_; rotate_left 1; focus ((try have hx1 := Fact.use (by assumption) hx); (try have hx2 := mem_ints.mp hx); (try dsimp only at hx1); refine ⟨_, rfl, fun R hR => ?_, rfl⟩ <;> (repeat (walk_at "s")) <;> exact hR))
  | (refine comp_all (en2 := dP) ?_ (fun x hx => ?_) ?_; rotate_left 1; focus ((try have hx1 := Fact.use (by assumption) hx); (try have hx2 := mem_ints.mp hx); (try dsimp only at hx1); refine ⟨_, rfl, fun R hR => ?_, rfl⟩ <;> (repeat (walk_at "s")) <;> exact hR))
  | (refine comp_el (en2 := PySem.PyData.int) ?_ ?_ (fun x hx => ?_) ?_; rotate_left 2; focus ((try have hx1 := Fact.use (by assumption) hx); (try have hx2 := mem_ints.mp hx); (try dsimp only at hx1); refine ⟨_, rfl, fun R hR => ?_, fun hp R hR => ?_, rfl⟩ <;> (repeat (walk_at "s")) <;> exact hR))
  | (refine comp_el (en2 := dP) ?_ ?_ (fun x hx => ?_) ?_; rotate_left 2; focus ((try have hx1 := Fact.use (by assumption) hx); (try have hx2 := mem_ints.mp hx); (try dsimp only at hx1); refine ⟨_, rfl, fun R hR => ?_, fun hp R hR => ?_, rfl⟩ <;> (repeat (walk_at "s")) <;> exact hR))
  | (refine comp_el (en2 := PySem.PyData.bool) ?_ ?_ (fun x hx => ?_) ?_; rotate_left 2; focus ((try have hx1 := Fact.use (by assumption) hx); (try have hx2 := mem_ints.mp hx); (try dsimp only at hx1); refine ⟨_, rfl, fun R hR => ?_, fun hp R hR => ?_, rfl⟩ <;> (repeat (walk_at "s")) <;> exact hR))
  | (refine comp_allD (en2 := PySem.PyData.int) ?_ (fun x hx => ?_) ?_; rotate_left 1; focus ((try have hx1 := Fact.use (by assumption) hx); (try dsimp only at hx1); refine ⟨_, rfl, fun R hR => ?_, rfl⟩ <;> (repeat (walk_at "s")) <;> exact hR))
  | (refine comp_allD (en2 := PySem.PyData.bool) ?_ (fun x hx => ?_) ?_; rotate_left 1; focus ((try have hx1 := Fact.use (by assumption) hx); (try dsimp only at hx1); refine ⟨_, rfl, fun R hR => ?_, rfl⟩ <;> (repeat (walk_at "s")) <;> exact hR)))
local macro_rules | `(tactic| walk_at "runc") => `(tactic| (repeat (first | walk_at "s" | walk_at "comp")); try walk_at "env")
/-- as run, but stops ahead of an if -/
local macro_rules | `(tactic| walk_at "runI") => `(tactic| (repeat ((fail_if_success (with_reducible refine' i_if ?_)); walk_at "s")); try walk_at "env")
open PySem
namespace Lib
/-- _law_lowest: slots 0 some:v, 1 at:v; modes ['fz']; answer fz -/
def wb_l_lowest : WS :=
  (wSeq (wAsg 1 (wC (.int 0)))
    (wSeq (wWhile (tVal (wOp2 eqD (wOp2 modD (wVar 0) (wC (.int 2))) (wC (.int 0)))) (wSeq (wAsg 0 (wOp2 fdivD (wVar 0) (wC (.int 2))))
    (wAsg 1 (wOp2 addD (wVar 1) (wC (.int 1))))))
    (wRet (wVar 1))))
def S_l_lowest : FS := fun ds Post => ∃ q : Nat, ds = [.int q] ∧ q ≠ 0 ∧ q < 512 ∧ Post (.int (lowZF q))
theorem m_l_lowest {rk : RK} : ∀ ds Post, S_l_lowest ds Post → wb_l_lowest { nx := fun _ => Post .none ∧ rk = .fz, rt := fun d _ => Post d } (startE 2 ds) := by
  rintro ds Post ⟨q, rfl, q0, q5, hP⟩
  unfold wb_l_lowest
  walk_at "start"
  walk_at "run"
  refine while_st [0, 1] (fun vs => ∃ x i : Nat, x ≠ 0 ∧ x < 2 ^ (9 - i) ∧ i + lowZG (9 - i) x = lowZF q ∧ i ≤ 9 ∧ vs = [some (.int x), some (.int i)]) (fun vs => match vs with | [some (.int x), _] => x.toNat | _ => 0) [_, _] rfl ⟨q, 0, q0, q5, Nat.zero_add _, by omega, rfl⟩ ?_
  rintro _ ⟨x, i, x0, x9, hl, i9, rfl⟩ R hR
  have hi : i < 9 := by
    apply Classical.byContradiction
    intro c
    rw [show 9 - i = 0 by omega] at x9
    omega
  obtain ⟨f, hf⟩ : ∃ f, 9 - i = f + 1 := ⟨8 - i, by omega⟩
  rw [hf] at hl x9
  have x9 : x < 2 ^ f * 2 := x9
  unfold lowZG at hl
  by_cases c : x % 2 = 0
  · rw [if_pos c] at hl
    have ec : (x : Int) % 2 = 0 := by omega
    have ed : fdivD (.int x) (.int 2) = some (.int ((x / 2 : Nat) : Int)) := by
      simp only [fdivD]
      rw [if_pos ⟨by omega, by omega⟩]
      congr 2
    walk_at "run"
    refine hR [some (.int ((x / 2 : Nat) : Int)), some (.int ((i : Int) + 1))] ⟨x / 2, i + 1, by omega, ?_, ?_, by omega, ?_⟩ ?_
    · rw [show 9 - (i + 1) = f by omega]; omega
    · rw [show 9 - (i + 1) = f by omega]; omega
    · have : ((i + 1 : Nat) : Int) = (i : Int) + 1 := by omega
      rw [this]
    · simp only [Int.toNat_natCast]; omega
  · rw [if_neg c] at hl
    have ec : ¬ (x : Int) % 2 = 0 := by omega
    have : i = lowZF q := by omega
    subst this
    walk_at "run"
    exact hP
theorem neg_fold (P : Nat → Bool) : ∀ (l : List Nat) (a : Int), l.foldl (fun a i => if P i = true then -a else a) a = a ∨ l.foldl (fun a i => if P i = true then -a else a) a = -a
  | [], a => .inl rfl
  | i :: l, a => by
    rw [List.foldl_cons]
    by_cases c : P i = true
    · rw [if_pos c]
      have := neg_fold P l (-a)
      rw [Int.neg_neg] at this
      exact this.symm
    · rw [if_neg c]
      exact neg_fold P l a
theorem ap_bd (w : Web) (q : Nat) : -1 ≤ apV w q ∧ apV w q ≤ 1 := by
  have h : sgF q = 1 ∨ sgF q = -1 := neg_fold (fun i => q.testBit i) (List.range 9) 1
  unfold apV
  split <;> omega
/-- the powers of the places tied to x -/
def nbF (ts : List (Int × Int)) (x : Int) : Int := (ts.map fun t => if t.1 = x then (2 : Int) ^ t.2.toNat else if t.2 = x then 2 ^ t.1.toNat else 0).sum
theorem nb_snoc (ts : List (Int × Int)) (t : Int × Int) (x : Int) : nbF (ts ++ [t]) x = nbF ts x + (if t.1 = x then (2 : Int) ^ t.2.toNat else if t.2 = x then 2 ^ t.1.toNat else 0) := by
  unfold nbF
  rw [List.map_append, List.sum_append]
  simp
theorem sum_perm {l m : List Int} (h : l.Perm m) : l.sum = m.sum := by
  induction h with
  | nil => rfl
  | cons _ _ ih => rw [List.sum_cons, List.sum_cons, ih]
  | swap a b _ => rw [List.sum_cons, List.sum_cons, List.sum_cons, List.sum_cons]; omega
  | trans _ _ h1 h2 => exact h1.trans h2
theorem nb_all {w : Web} (o : w.ok) (x : Int) : nbF w.ts x = powS (nearF w x) := by
  have e1 : powS (nearF w x) = powS (nearU w x) := by
    unfold powS
    exact sum_perm ((isort_perm _).map _)
  rw [e1]
  unfold nbF powS nearU
  have rg := fun t ht => (o.rg t ht).2.1
  revert rg
  generalize w.ts = ts
  intro rg
  induction ts with
  | nil => rfl
  | cons t ts ih =>
    have ih := ih fun u hu => rg u (by simp [hu])
    have h1 := rg t (by simp)
    rw [List.map_cons, List.sum_cons, ih]
    by_cases a : t.1 = x
    · rw [if_pos a, List.filter_cons_of_pos (by simp [a]), List.map_cons, List.map_cons, List.sum_cons]
      congr 2
      congr 1
      omega
    · by_cases b : t.2 = x
      · rw [if_neg a, if_pos b, List.filter_cons_of_pos (by simp [b]), List.map_cons, List.map_cons, List.sum_cons]
        congr 2
        congr 1
        omega
      · have h : ¬ (decide (x = t.1) || decide (x = t.2)) = true := by
          simp only [Bool.or_eq_true, decide_eq_true_eq]
          omega
        rw [if_neg a, if_neg b, List.filter_cons_of_neg (p := fun t : Int × Int => decide (x = t.1) || decide (x = t.2)) h]
        omega
theorem nb_list {w : Web} (o : w.ok) : (irng 0 w.n).map (nbF w.ts) = nsF w := List.map_congr_left fun x _ => nb_all o x
theorem nb_set {n : Int} {ts : List (Int × Int)} {t : Int × Int} (h0 : 0 ≤ t.1) (h1 : t.1 < t.2) (h2 : t.2 < n) :
    (((irng 0 n).map (nbF ts)).set t.1.toNat (nbF ts t.1 + 2 ^ t.2.toNat)).set t.2.toNat (nbF ts t.2 + 2 ^ t.1.toNat) = (irng 0 n).map (nbF (ts ++ [t])) := by
  refine List.ext_getElem (by simp) fun i a b => ?_
  rw [List.length_set, List.length_set, List.length_map, ints_len] at a
  have e : (irng 0 n)[i]'(by rw [ints_len]; exact a) = (i : Int) := by simp [irng]
  rw [List.getElem_set, List.getElem_set, List.getElem_map, List.getElem_map, e, nb_snoc]
  by_cases c : t.2.toNat = i
  · have : t.2 = (i : Int) := by omega
    rw [if_pos c, if_neg (by omega), if_pos this, this]
  · by_cases d : t.1.toNat = i
    · have : t.1 = (i : Int) := by omega
      rw [if_neg c, if_pos d, if_pos this, this]
    · rw [if_neg c, if_neg d, if_neg (by omega), if_neg (by omega), Int.add_zero]
/-- how many falls, set by set, as far as S -/
noncomputable def foF (w : Web) (N S : Nat) : List Int := (List.range N).map fun x => if x < S then cntA w x else 0
theorem fo_len (w : Web) (N S : Nat) : (foF w N S).length = N := by unfold foF; rw [List.length_map, List.length_range]
theorem fo_at {w : Web} {N S x : Nat} (h : x < N) : (foF w N S)[x]'(by rw [fo_len]; exact h) = if x < S then cntA w x else 0 := by
  unfold foF
  rw [List.getElem_map, List.getElem_range]
theorem fo_1 {w : Web} (o : w.ok) {N : Nat} (h : 1 ≤ N) : foF w N 1 = 1 :: List.replicate (N - 1) 0 := by
  obtain ⟨M, rfl⟩ : ∃ M, N = M + 1 := ⟨N - 1, by omega⟩
  refine List.ext_getElem (by rw [fo_len]; simp) fun i a b => ?_
  rw [fo_at (by rw [fo_len] at a; exact a)]
  cases i with
  | zero => rw [if_pos (by omega), cnt_0 o]; rfl
  | succ i => rw [if_neg (by omega), List.getElem_cons_succ, List.getElem_replicate]
theorem fo_next {w : Web} {N S : Nat} (h : S < N) : (foF w N S).set S (cntA w S) = foF w N (S + 1) := by
  refine List.ext_getElem (by rw [List.length_set, fo_len, fo_len]) fun i a b => ?_
  rw [fo_len] at b
  rw [List.getElem_set, fo_at b, fo_at b]
  by_cases c : S = i
  · subst c; rw [if_pos rfl, if_pos (by omega)]
  · rw [if_neg c]
    by_cases d : i < S
    · rw [if_pos d, if_pos (by omega)]
    · rw [if_neg d, if_neg (by omega)]
/-- _law_counts: slots 0 web:r, 1 near_bits:o, 2 a:v, 3 b:v, 4 apart:f, 5 signs:v, 6 some:v, 7 low:v, 8 rest:v, 9 found:f, 10 part:v; modes ['rd']; answer fz -/
def wb_l_counts (S_l_lowest : FS) : WS :=
  (wSeq (wAsg 1 (wOp2 repLD (wList (waCons (wC (.int 0)) waNil)) (wOp2 ixD (wVar 0) (wC (.int 0)))))
    (wSeq (wFor (wiSeq (wOp2 ixD (wVar 0) (wC (.int 1)))) (gT [(gN 2), (gN 3)]) (wSeq (wSetIx 1 (wOp2 addD (wOp2 ixD (wVar 1) (wVar 2)) (wOp2 shlD (wC (.int 1)) (wVar 3))) (wVar 2))
    (wSetIx 1 (wOp2 addD (wOp2 ixD (wVar 1) (wVar 3)) (wOp2 shlD (wC (.int 1)) (wVar 2))) (wVar 3))))
    (wSeq (wAsg 4 (wDisp1 (wC (.int 0)) (wC (.int 1))))
    (wSeq (wAsg 5 (wOp2 repLD (wList (waCons (wC (.int 0)) waNil)) (wOp2 shlD (wC (.int 1)) (wOp2 ixD (wVar 0) (wC (.int 0))))))
    (wSeq (wAsO 4 (wFor (wiRg2 (wC (.int 1)) (wOp2 shlD (wC (.int 1)) (wOp2 ixD (wVar 0) (wC (.int 0))))) (gN 6) (wSeq (wAsg 7 (wCall S_l_lowest (waCons (wVar 6) waNil)))
    (wSeq (wAsg 8 (wOp2 subD (wVar 6) (wOp2 shlD (wC (.int 1)) (wVar 7))))
    (wIf (tAnd (tVal (wOp2 dinD (wVar 8) (wVar 4))) (tVal (wOp2 eqD (wOp2 andBD (wOp2 ixD (wVar 1) (wVar 7)) (wVar 8)) (wC (.int 0))))) (wDput 4 (wOp2 subD (wC (.int 0)) (wOp2 dgetD (wVar 4) (wVar 8))) (wVar 6)) wNil)))))
    (wSeq (wAsg 9 (wOp2 addLD (wList (waCons (wC (.int 1)) waNil)) (wSl slD (wVar 5) (woS (wC (.int 1))) woN)))
    (wSeq (wAsO 9 (wAsO 4 (wFor (wiRg2 (wC (.int 1)) (wOp2 shlD (wC (.int 1)) (wOp2 ixD (wVar 0) (wC (.int 0))))) (gN 6) (wSeq (wAsg 10 (wVar 6))
    (wWhile (tVal (wOp2 gtD (wVar 10) (wC (.int 0)))) (wSeq (wSetIx 9 (wOp2 subD (wOp2 ixD (wVar 9) (wVar 6)) (wOp2 mulID (wDget2 (wVar 4) (wVar 10) (wC (.int 0))) (wOp2 ixD (wVar 9) (wOp2 subD (wVar 6) (wVar 10))))) (wVar 6))
    (wAsg 10 (wOp2 andBD (wOp2 subD (wVar 10) (wC (.int 1))) (wVar 6)))))))))
    (wFrz 4 (wFrz 9 (wAsV 9 (wAsV 4 (wRet (wTup (waCons (wVar 4) (waCons (wVar 9) waNil)))))))))))))))
def S_l_counts : FS := fun ds Post => ∃ w : Web, ds = [dW w] ∧ w.ok ∧ Post (.tuple [dI (apM w (2 ^ w.n.toNat)), LI (foF w (2 ^ w.n.toNat) (2 ^ w.n.toNat))])
set_option maxHeartbeats 4000000 in
theorem m_l_counts {rk : RK} : ∀ ds Post, S_l_counts ds Post → wb_l_counts S_l_lowest { nx := fun _ => Post .none ∧ rk = .fz, rt := fun d _ => Post d } (startE 11 ds) := by
  rintro ds Post ⟨w, rfl, o, hP⟩
  have n1 := o.n1
  have n9 := o.n9
  have hN9 : 2 ^ w.n.toNat ≤ 512 := Nat.pow_le_pow_right (n := 2) (by omega) (show w.n.toNat ≤ 9 by omega)
  have hN2 : 2 ≤ 2 ^ w.n.toNat := Nat.pow_le_pow_right (n := 2) (by omega) (show 1 ≤ w.n.toNat by omega)
  have hNI : (2 : Int) ^ w.n.toNat = ((2 ^ w.n.toNat : Nat) : Int) := by simp
  have hsh : ∀ b : Int, 0 ≤ b → b ≤ 9 → shlD (.int 1) (.int b) = some (.int (2 ^ b.toNat)) := fun b h0 h1 => by
    simp only [shlD]
    rw [if_pos ⟨by omega, by omega, by decide⟩, Int.one_mul]
  have hsn := hsh w.n (by omega) n9
  rw [hNI] at hsn
  have hrep := repLD_0 (x := 0) (n := w.n) (by omega) (by omega)
  have hrepN := repLD_0 (x := 0) (n := ((2 ^ w.n.toNat : Nat) : Int)) (by omega) (by omega)
  have h0 : List.replicate w.n.toNat (0 : Int) = (irng 0 w.n).map (nbF []) := by
    refine List.ext_getElem (by rw [List.length_replicate, List.length_map, ints_len]; omega) fun i a b => ?_
    rw [List.getElem_replicate, List.getElem_map]
    rfl
  unfold wb_l_counts
  walk_at "start"
  walk_at "run"
  refine for_st (enc := dP) [1, 2, 3] (fun pre vs => ∃ s2 s3 : Option D, vs = [some (LI ((irng 0 w.n).map (nbF pre))), s2, s3]) [_, _, _] rfl ⟨_, _, by rw [h0]⟩ ?_ ?_
  · rintro pre t post _ hL ⟨s2, s3, rfl⟩ R hR
    have hr := o.rg t (by rw [hL]; simp)
    have hs1 := hsh t.1 (by omega) (by omega)
    have hs2 := hsh t.2 (by omega) (by omega)
    have hset := nb_set (n := w.n) (ts := pre) hr.1 hr.2.1 hr.2.2
    have hlen : ((irng 0 w.n).map (nbF pre)).length = w.n.toNat := by rw [List.length_map, ints_len]; omega
    have hat : ∀ x : Int, 0 ≤ x → x < w.n → ((irng 0 w.n).map (nbF pre))[x.toNat]! = nbF pre x := fun x x0 x1 => by
      rw [getElem!_pos _ _ (by rw [hlen]; omega), List.getElem_map]
      congr 1
      simp only [irng, List.getElem_map, List.getElem_range]
      omega
    have ha1 := hat t.1 (by omega) (by omega)
    have ha2 := hat t.2 (by omega) (by omega)
    have hst : (((irng 0 w.n).map (nbF pre)).set t.1.toNat (nbF pre t.1 + 2 ^ t.2.toNat))[t.2.toNat]! = nbF pre t.2 := by
      rw [getElem!_pos _ _ (by rw [List.length_set, hlen]; omega), List.getElem_set, if_neg (by omega), ← ha2, getElem!_pos _ _ (by rw [hlen]; omega)]
    generalize hks : (irng 0 w.n).map (nbF pre) = ks at *
    have hls : (ks.set t.1.toNat (ks[t.1.toNat]! + 2 ^ t.2.toNat)).length = w.n.toNat := by rw [List.length_set, hlen]
    walk_at "run"
    rw [ha1, hst, hset]
    exact hR [_, _, _] ⟨_, _, rfl⟩
  · rintro _ ⟨s2, s3, rfl⟩
    rw [nb_list o]
    generalize hNN : 2 ^ w.n.toNat = N at *
    have hnl := ns_len w
    have apS : ∀ {q : Nat}, (List.lookup (q : Int) (apM w N)) = if q < N ∧ indB w q = true then some (sgF q) else none := fun {q} => ap_look q N
    walk_at "run"
    refine for_st (enc := .int) [4, 6, 7, 8] (fun pre vs => ∃ s6 s7 s8 : Option D, vs = [some (dI (apM w (pre.length + 1))), s6, s7, s8]) [_, _, _, _] rfl ⟨_, _, _, by rw [List.length_nil, Nat.zero_add, ap_1]; rfl⟩ ?_ ?_
    · rintro pre q post _ hL ⟨s6, s7, s8, rfl⟩ R hR
      have hq := mem_ints.mp (show q ∈ irng 1 (N : Int) by rw [hL]; simp)
      have epre : q = ((pre.length + 1 : Nat) : Int) := by
        have h1 : (irng 1 (N : Int))[pre.length]? = some q := by rw [hL]; simp
        obtain ⟨h2, h3⟩ := List.getElem?_eq_some_iff.mp h1
        rw [← h3]
        simp [irng]
        omega
      rw [List.length_append, List.length_singleton] at hR
      generalize pre.length + 1 = Q at epre hR
      subst epre
      obtain ⟨⟨l9, lq, sg, lb⟩, _⟩ := low_all (q := Q) (by omega) (by omega)
      have hsl := hsh (lowZF Q) (by omega) (by omega)
      rw [Int.toNat_natCast, show (2 : Int) ^ lowZF Q = ((2 ^ lowZF Q : Nat) : Int) by simp] at hsl
      have hil := ind_low o (q := Q) (by omega) (by omega)
      have hlow : lowZF Q < w.n.toNat := by
        apply Classical.byContradiction
        intro c
        have : Q < 2 ^ lowZF Q := by
          have h1 : (2 : Nat) ^ w.n.toNat ≤ 2 ^ lowZF Q := Nat.pow_le_pow_right (by omega) (by omega)
          omega
        rw [Nat.testBit_lt_two_pow this] at lb
        cases lb
      generalize hr : Q - 2 ^ lowZF Q = r at *
      have hrq : r < Q := by have := Nat.two_pow_pos (lowZF Q); omega
      have hsub : subD (.int (Q : Int)) (.int ((2 ^ lowZF Q : Nat) : Int)) = some (.int (r : Int)) := by
        show some (PyData.int (_ - _)) = _
        congr 2
        omega
      have hlk : ((apM w Q).lookup (r : Int)) = if indB w r = true then some (sgF r) else none := by
        rw [ap_look]
        by_cases c : indB w r = true
        · rw [if_pos ⟨hrq, c⟩, if_pos c]
        · rw [if_neg fun h => c h.2, if_neg c]
      walk_at "run"
      refine ⟨Q, rfl, by omega, by omega, ?_⟩
      walk_at "run"
      rw [show (Q : Int) - ((2 ^ lowZF Q : Nat) : Int) = (r : Int) by omega, hlk]
      have hnx := ap_next (w := w) (S := Q)
      have hand : andBD (.int (nsF w)[(lowZF Q : Int).toNat]!) (.int (r : Int)) = some (.int (Builtin.bitAnd (gI (nsF w) (lowZF Q : Int)) (r : Int))) := rfl
      generalize hz : Builtin.bitAnd (gI (nsF w) (lowZF Q : Int)) (r : Int) = z at hil hand
      by_cases c : indB w r = true
      · rw [c, Bool.true_and] at hil
        rw [if_pos c] at hlk ⊢
        simp only [Option.isSome_some, if_true]
        walk_at "run"
        by_cases d : z = 0
        · rw [decide_eq_true d] at hil
          rw [if_pos hil] at hnx
          have hdg : dgetD (dI (apM w Q)) (.int (r : Int)) = some (.int (sgF r)) := by
            show (if _ then _ else _) = _
            rw [if_pos (plain_dI _)]
            show (lookD _ (.inl (r : Int))) = _
            rw [look_dI, hlk]; rfl
          have hapl := ap_len w Q
          walk_at "run"
          refine hR [_, _, _, _] ?_
          rw [hnx, sg, show (0 : Int) - sgF r = -sgF r by omega]
          exact ⟨_, _, _, rfl⟩
        · rw [decide_eq_false d] at hil
          rw [if_neg (by rw [hil]; simp)] at hnx
          walk_at "run"
          refine hR [_, _, _, _] ?_
          rw [hnx]
          exact ⟨_, _, _, rfl⟩
      · rw [Bool.not_eq_true] at c
        rw [c, Bool.false_and] at hil
        rw [c, if_neg (by simp)]
        rw [if_neg (by rw [hil]; simp)] at hnx
        simp only [Option.isSome_none, Bool.false_eq_true, if_false]
        walk_at "run"
        refine hR [_, _, _, _] ?_
        rw [hnx]
        exact ⟨_, _, _, rfl⟩
    · rintro _ ⟨s6, s7, s8, rfl⟩
      rw [ints_len, show ((N : Int) - 1).toNat + 1 = N by omega]
      have hadd : addLD (.list [.int 1]) (.list ((List.drop (Int.toNat 1) (List.replicate (N : Int).toNat 0)).map PyData.int)) = some (LI (foF w N 1)) := by
        rw [fo_1 o (by omega), Int.toNat_natCast, List.drop_replicate]
        show (if _ then _ else _) = _
        rw [if_pos (by rw [List.length_map, List.length_replicate]; show 1 + _ ≤ 1000000; show 1 + (N - 1) ≤ 1000000; omega)]
        rfl
      walk_at "run"
      refine for_st (enc := .int) [6, 9, 10] (fun pre vs => ∃ s6 s10 : Option D, vs = [s6, some (LI (foF w N (pre.length + 1))), s10]) [_, _, _] rfl ⟨_, _, rfl⟩ ?_ ?_
      · rintro pre q post _ hL ⟨s6, s10, rfl⟩ R hR
        have hq := mem_ints.mp (show q ∈ irng 1 (N : Int) by rw [hL]; simp)
        have epre : q = ((pre.length + 1 : Nat) : Int) := by
          have h1 : (irng 1 (N : Int))[pre.length]? = some q := by rw [hL]; simp
          obtain ⟨h2, h3⟩ := List.getElem?_eq_some_iff.mp h1
          rw [← h3]
          simp [irng]
          omega
        rw [List.length_append, List.length_singleton] at hR
        generalize pre.length + 1 = Q at epre hR
        subst epre
        have hsum := cnt_walk o (S := Q) (by omega) (by omega)
        have hnext := fo_next (w := w) (N := N) (S := Q) (by omega)
        have hfl := fo_len w N Q
        walk_at "run"
        refine while_st [9, 10] (fun vs => ∃ (f p : Nat) (acc : Int), p ≤ f ∧ p &&& Q = p ∧ acc + ((walkL f p Q).map fun q => -(apV w q * cntA w (Q - q))).sum = cntA w Q ∧ vs = [some (LI ((foF w N Q).set Q acc)), some (.int p)]) (fun vs => match vs with | [_, some (.int p)] => p.toNat | _ => 0) [_, _] rfl ⟨512, Q, 0, by omega, Nat.and_self Q, by rw [Int.zero_add]; exact hsum, ?_⟩ ?_
        · have e : (foF w N Q).set Q 0 = foF w N Q := by
            refine List.ext_getElem (by rw [List.length_set]) fun i a b => ?_
            rw [List.getElem_set]
            split
            · next h =>
              subst h
              rw [fo_at (by rw [fo_len] at b; exact b), if_neg (by omega)]
            · rfl
          rw [e]
        · rintro _ ⟨f, p, acc, hpf, hpq, hacc, rfl⟩ R2 hR2
          by_cases c : p = 0
          · subst c
            have e : walkL f 0 Q = [] := by cases f <;> rfl
            rw [e, List.map_nil, List.sum_nil, Int.add_zero] at hacc
            walk_at "run"
            refine hR [_, _, _] ?_
            rw [hacc, hnext]
            exact ⟨_, _, rfl⟩
          · obtain ⟨f, rfl⟩ : ∃ f', f = f' + 1 := ⟨f - 1, by omega⟩
            have e : walkL (f + 1) p Q = p :: walkL f ((p - 1) &&& Q) Q := by
              show (if p = 0 then [] else _) = _
              rw [if_neg c]
            rw [e, List.map_cons, List.sum_cons] at hacc
            have hle := Nat.and_le_left (n := p - 1) (m := Q)
            have hpQ := Nat.and_le_right (n := p) (m := Q)
            have hp0 : (0 : Int) < (p : Int) := by omega
            have hat1 : ((foF w N Q).set Q acc)[((Q : Nat) : Int).toNat]! = acc := by
              rw [getElem!_pos _ _ (by rw [List.length_set, fo_len]; omega), List.getElem_set, if_pos (by omega)]
            have hat2 : ((foF w N Q).set Q acc)[((Q : Int) - (p : Int)).toNat]! = cntA w (Q - p) := by
              rw [getElem!_pos _ _ (by rw [List.length_set, fo_len]; omega), List.getElem_set, if_neg (by omega), fo_at (by omega), if_pos (by omega)]
              congr 1
              omega
            have hlen : ((foF w N Q).set Q acc).length = N := by rw [List.length_set, fo_len]
            have hg : (lookD ((apM w N).map fun p => (PyData.int p.1, PyData.int p.2)) (.inl (p : Int))).getD (.int 0) = .int (apV w p) := by
              rw [look_dI, apS]
              unfold apV
              by_cases d : indB w p = true
              · rw [if_pos ⟨by omega, d⟩, if_pos d]; rfl
              · rw [if_neg (fun h => d h.2), if_neg d]; rfl
            have hand : andBD (.int ((p : Int) - 1)) (.int (Q : Int)) = some (.int (((p - 1) &&& Q : Nat) : Int)) := by
              show some (PyData.int (Builtin.bitAnd _ _)) = _
              rw [and_nn (by omega) (by omega)]
              congr 3
              rw [Int.toNat_natCast]
              congr 1
              omega
            have hmul : mulID (.int (apV w p)) (.int (cntA w (Q - p))) = some (.int (apV w p * cntA w (Q - p))) := by
              have h1 : -(2 ^ 64) < apV w p ∧ apV w p < 2 ^ 64 := by
                have := ap_bd w p
                omega
              have h : okMul (apV w p) (cntA w (Q - p)) = true := decide_eq_true (.inl h1)
              simp only [mulID]
              rw [if_pos h]
            walk_at "run"
            refine i_dget2 ?_
            walk_at "run"
            refine ⟨_, rfl, plain_dI _, ?_⟩
            walk_at "run"
            refine ⟨.inl (p : Int), rfl, ?_⟩
            rw [hg]
            walk_at "run"
            rw [hat2] at *
            walk_at "run"
            have hpp : ((p - 1) &&& Q) &&& Q = (p - 1) &&& Q := by rw [Nat.and_assoc, Nat.and_self]
            have hset : ((foF w N Q).set Q acc).set ((Q : Nat) : Int).toNat (((foF w N Q).set Q acc)[((Q : Nat) : Int).toNat]! - apV w p * cntA w (Q - p)) = (foF w N Q).set Q (acc - apV w p * cntA w (Q - p)) := by
              rw [hat1, Int.toNat_natCast, List.set_set]
            rw [hset]
            refine hR2 [_, _] ⟨f, (p - 1) &&& Q, acc - apV w p * cntA w (Q - p), by omega, hpp, by omega, rfl⟩ ?_
            simp only [Int.toNat_natCast]
            omega
      · rintro _ ⟨s6, s10, rfl⟩
        rw [ints_len, show ((N : Int) - 1).toNat + 1 = N by omega]
        walk_at "run"
        exact hP
end Lib
end G7
set_option maxRecDepth 100000
namespace G7
open PySem
namespace Lib
structure SF (w : Web) (s : Int) (ts : List (Int × Int)) (L : List PR) : Prop where
  mem : ∀ p, p ∈ L.map Prod.fst ↔ isP ⟨w.n, ts⟩ p ∧ Goes w s ts p
  nd : (L.map Prod.fst).Nodup
  ok : ∀ z ∈ L, IntoOk w.n ts z.1 z.2
def growS (L : List PR) (a b : Int) : List PR := L.flatMap fun z => [(z.1 ++ [0], lbF z.2 b a), (z.1 ++ [1], lbF z.2 a b)]
theorem growS_mem {L : List PR} {a b : Int} {y : PR} : y ∈ growS L a b ↔ ∃ z ∈ L, y = (z.1 ++ [0], lbF z.2 b a) ∨ y = (z.1 ++ [1], lbF z.2 a b) := by
  unfold growS
  rw [List.mem_flatMap]
  simp
theorem into_step {n : Int} {ts : List (Int × Int)} {p is : List Int} (h : IntoOk n ts p is) (hl : p.length = ts.length) {a b : Int} (ha : 0 ≤ a ∧ a < n) (hb : 0 ≤ b ∧ b < n) : IntoOk n (ts ++ [(a, b)]) (p ++ [0]) (lbF is b a) ∧ IntoOk n (ts ++ [(a, b)]) (p ++ [1]) (lbF is a b) := by
  have key : ∀ c e v : Int, (0 ≤ c ∧ c < n) → (0 ≤ e ∧ e < n) → arw ⟨n, ts ++ [(a, b)]⟩ (p ++ [v]) = arw ⟨n, ts⟩ p ++ [(c, e)] → IntoOk n (ts ++ [(a, b)]) (p ++ [v]) (lbF is c e) := fun c e v hc he ea => by
    have hg := gI_nn h.2.1 he.1 (by rw [h.1]; exact he.2)
    refine ⟨by rw [lb_len]; exact h.1, lb_nn h.2.1 he.1 (by rw [h.1]; exact he.2), fun x x0 x1 y y0 => ?_⟩
    rw [ea, List.mem_append, List.mem_singleton, ← h.2.2 x x0 x1 y y0, lb_gI he.1 x0 (by rw [h.1]; exact x1)]
    by_cases q : x = e
    · subst q
      rw [if_pos rfl, tb_or hg (pow_nn _), tb_pow hc.1 y0, Bool.or_eq_true, decide_eq_true_eq]
      constructor
      · rintro (q | q)
        · exact .inl q
        · exact .inr (by rw [q])
      · rintro (q | q)
        · exact .inl q
        · exact .inr (Prod.mk.inj q).1
    · rw [if_neg q]
      constructor
      · intro t; exact .inl t
      · rintro (t | t)
        · exact t
        · exact absurd (Prod.mk.inj t).2 q
  refine ⟨key b a 0 hb ha ?_, key a b 1 ha hb ?_⟩
  · rw [arw_snoc hl, if_neg (by decide)]
  · rw [arw_snoc hl, if_pos rfl]
theorem SF.start {w : Web} (o : w.ok) {s : Int} (hne : fallsS w s ≠ []) : SF w s [] [([], List.replicate w.n.toNat 0)] := by
  have n1 := o.n1
  obtain ⟨q, hq⟩ := List.exists_mem_of_ne_nil _ hne
  obtain ⟨h, h1, _⟩ := (mem_FS o).mp hq
  refine ⟨fun p => ?_, by simp, fun z hz => ?_⟩
  · simp only [List.map_cons, List.map_nil, List.mem_singleton]
    constructor
    · rintro rfl
      exact ⟨⟨rfl, by simp⟩, h, h1, by intro t ht; simp [arw] at ht⟩
    · rintro ⟨⟨h1, _⟩, _⟩
      exact List.length_eq_zero_iff.mp h1
  · simp only [List.mem_singleton] at hz
    subst hz
    refine ⟨by simp; omega, fun x hx => by rw [List.eq_of_mem_replicate hx]; exact Int.le_refl _, fun x x0 x1 y y0 => ?_⟩
    have e : gI (List.replicate w.n.toNat 0) x = 0 := by
      unfold gI
      rw [getElem!_pos _ _ (by rw [List.length_replicate]; omega), List.getElem_replicate]
    rw [e, tb_zero]
    simp [arw]
theorem SF.len {w : Web} {s : Int} {ts : List (Int × Int)} {L : List PR} (h : SF w s ts L) : ∀ z ∈ L, isP ⟨w.n, ts⟩ z.1 := fun z hz => ((h.mem z.1).mp (List.mem_map.mpr ⟨z, hz, rfl⟩)).1
open Classical in
theorem SF.step {w : Web} {s : Int} {ts : List (Int × Int)} {L : List PR} (h : SF w s ts L) {a b : Int} (ha : 0 ≤ a ∧ a < w.n) (hb : 0 ≤ b ∧ b < w.n) : SF w s (ts ++ [(a, b)]) ((growS L a b).filter fun z => decide (Goes w s (ts ++ [(a, b)]) z.1)) := by
  have lenp : ∀ z ∈ L, z.1.length = ts.length := fun z hz => (h.len z hz).1
  have hfst : ∀ y ∈ growS L a b, isP ⟨w.n, ts ++ [(a, b)]⟩ y.1 ∧ IntoOk w.n (ts ++ [(a, b)]) y.1 y.2 := fun y hy => by
    obtain ⟨z, hz, q⟩ := growS_mem.mp hy
    have hs := into_step (h.ok z hz) (lenp z hz) ha hb
    rcases q with rfl | rfl
    · exact ⟨isP_snoc.mpr ⟨_, _, rfl, h.len z hz, .inl rfl⟩, hs.1⟩
    · exact ⟨isP_snoc.mpr ⟨_, _, rfl, h.len z hz, .inr rfl⟩, hs.2⟩
  refine ⟨fun q => ?_, ?_, fun z hz => (hfst z (List.mem_filter.mp hz).1).2⟩
  · rw [List.mem_map]
    constructor
    · rintro ⟨y, hy, rfl⟩
      obtain ⟨h1, h2⟩ := List.mem_filter.mp hy
      exact ⟨(hfst y h1).1, of_decide_eq_true h2⟩
    · rintro ⟨hq, hg⟩
      obtain ⟨p, x, rfl, hp, hx⟩ := isP_snoc.mp hq
      have hgp : Goes w s ts p := by
        obtain ⟨f, f1, f2⟩ := hg
        refine ⟨f, f1, fun t ht => f2 t ?_⟩
        rw [arw_snoc hp.1]
        exact List.mem_append_left _ ht
      obtain ⟨z, hz, e⟩ := List.mem_map.mp ((h.mem p).mpr ⟨hp, hgp⟩)
      subst e
      rcases hx with rfl | rfl
      · exact ⟨_, List.mem_filter.mpr ⟨growS_mem.mpr ⟨z, hz, .inl rfl⟩, decide_eq_true hg⟩, rfl⟩
      · exact ⟨_, List.mem_filter.mpr ⟨growS_mem.mpr ⟨z, hz, .inr rfl⟩, decide_eq_true hg⟩, rfl⟩
  · have key : ∀ L : List PR, (L.map Prod.fst).Nodup → ((growS L a b).map Prod.fst).Nodup := by
      intro L
      induction L with
      | nil => intro _; exact List.nodup_nil
      | cons z L ih =>
        intro nd
        rw [List.map_cons] at nd
        obtain ⟨n1, n2⟩ := List.nodup_cons.mp nd
        have e : (growS (z :: L) a b).map Prod.fst = [z.1 ++ [0], z.1 ++ [1]] ++ (growS L a b).map Prod.fst := by unfold growS; rw [List.flatMap_cons]; simp
        rw [e]
        refine List.nodup_append.mpr ⟨?_, ih n2, fun p hp q hq e => ?_⟩
        · simp
        · obtain ⟨y, hy, rfl⟩ := List.mem_map.mp hq
          obtain ⟨z2, hz2, c⟩ := growS_mem.mp hy
          have : p.dropLast = z.1 := by
            simp only [List.mem_cons, List.not_mem_nil, or_false] at hp
            rcases hp with rfl | rfl <;> simp
          have e2 : y.1.dropLast = z2.1 := by rcases c with rfl | rfl <;> simp
          refine n1 (List.mem_map.mpr ⟨z2, hz2, ?_⟩)
          rw [← e2, ← e, this]
    have := key L h.nd
    unfold List.Nodup at this ⊢
    rw [List.pairwise_map] at this ⊢
    exact this.filter _
theorem SF.few {w : Web} (o : w.ok) {s : Int} {ts rest : List (Int × Int)} (e : w.ts = ts ++ rest) {L : List PR} (h : SF w s ts L) : L.length ≤ (fallsS w s).length := by
  have := nodup_leG (l := L.map Prod.fst) (m := (fallsS w s).map fun q => q.take ts.length) h.nd fun p hp => by
    obtain ⟨h1, f, f1, f2⟩ := (h.mem p).mp hp
    refine List.mem_map.mpr ⟨ptg w f, (mem_FS o).mpr ⟨f, f1, rfl⟩, ?_⟩
    have h3 := (up_ptg h1 f2).2
    rw [h3]
    unfold ptg
    rw [e, List.map_append]
    show (List.map _ ts ++ _).take ts.length = _
    rw [List.take_left' (by rw [List.length_map])]
  rw [List.length_map, List.length_map] at this
  exact this
theorem SF.all {w : Web} (o : w.ok) {s : Int} {L : List PR} (h : SF w s w.ts L) : (L.map Prod.fst).Perm (fallsS w s) := by
  refine (List.perm_ext_iff_of_nodup h.nd (fallsS_nd o s)).mpr fun p => ?_
  rw [h.mem, mem_FS o]
  constructor
  · rintro ⟨h1, f, f1, f2⟩
    exact ⟨f, f1, (up_ptg h1 f2).2⟩
  · rintro ⟨f, f1, rfl⟩
    exact ⟨ptg_isP w f, f, f1, ptg_up f1.1⟩
/-- the pairs' second parts by the test of may_be_seated -/
theorem SF.test {w : Web} (o : w.ok) {s : Int} (s0 : 0 ≤ s) (s1 : s < w.n) {ts : List (Int × Int)} (hsub : ∀ t ∈ ts, t ∈ w.ts) {z : PR} (hz : isP ⟨w.n, ts⟩ z.1) (hi : IntoOk w.n ts z.1 z.2) : (CanO (nsF w) z.2 w.n.toNat s ∧ gI z.2 s = 0) ↔ Goes w s ts z.1 := by
  refine can_goes o s0 s1 hi fun t ht => ?_
  unfold arw at ht
  obtain ⟨i, hi2, rfl⟩ := List.getElem_of_mem ht
  rw [List.length_zipWith] at hi2
  rw [List.getElem_zipWith]
  have hm : ts[i]'(by show i < ts.length; have : (⟨w.n, ts⟩ : Web).ts.length = ts.length := rfl; omega) ∈ w.ts := hsub _ (List.getElem_mem _)
  split
  · exact .inl hm
  · exact .inr hm
end Lib
end G7

set_option maxRecDepth 100000
namespace G7
open PySem
namespace Lib
end Lib
end G7

set_option maxRecDepth 100000
namespace G7
open PySem
namespace Lib
/-- a bound, by how many ties and places -/
def kb : Nat → Nat → Nat
  | 0, n => if n = 1 then 1 else 0
  | m + 1, n => if n ≤ 1 then 1 else if n * (n - 1) ≤ 2 * m then kb m n else kb m n + kb m (n - 1)
end Lib
end G7

set_option maxRecDepth 100000
namespace G7
open PySem
namespace Lib
end Lib
end G7

set_option maxRecDepth 100000
namespace G7
open PySem
namespace Lib
/-- led to by places of a kind -/
inductive RP (w : Web) (P : Int → Prop) (x : Int) : Int → Prop
  | refl : RP w P x x
  | step {u v} : RP w P x u → T w u v → P v → RP w P x v
theorem RP.trans {w : Web} {P : Int → Prop} {x y z : Int} (h : RP w P x y) (g : RP w P y z) : RP w P x z := by
  induction g with
  | refl => exact h
  | step _ t p ih => exact .step ih t p
theorem RP.symm {w : Web} {P : Int → Prop} {x y : Int} (h : RP w P x y) (hx : P x) : RP w P y x := by
  have key : RP w P y x ∧ P y := by
    induction h with
    | refl => exact ⟨.refl, hx⟩
    | step _ t p ih => exact ⟨RP.trans (.step .refl (T_rev t) ih.2) ih.1, p⟩
  exact key.1
theorem RP.mono {w : Web} {P Q : Int → Prop} {x y : Int} (h : RP w P x y) (s : ∀ z, RP w P x z → P z → Q z) : RP w Q x y := by
  induction h with
  | refl => exact .refl
  | step r t p ih => exact .step ih t (s _ (.step r t p) p)
theorem RP.rg {w : Web} (o : w.ok) {P : Int → Prop} {x y : Int} (h : RP w P x y) (hx : 0 ≤ x ∧ x < w.n) : 0 ≤ y ∧ y < w.n := by
  cases h with
  | refl => exact hx
  | step _ t _ => exact (T_rg o t).2
end Lib
end G7

set_option maxRecDepth 100000
namespace G7
open PySem
namespace Lib
def mayF (w : Web) (t : Int) (o : List Int) (x : Int) : Bool :=
  if x = t then decide ((o.length : Int) = w.n - 1)
  else !decide ((nearF w x).filter (fun y => !decide (y ∈ o)) = []) && decide ((((nearF w x).filter fun y => !decide (y ∈ o)).length : Int) < ((nearF w x).length : Int))
def goF (w : Web) (t : Int) : Nat → List Int → Option (List Int)
  | 0, o => some o
  | j + 1, o => (irng 0 w.n).findSome? fun x => if (!decide (x ∈ o) && mayF w t o x) = true then goF w t j (o ++ [x]) else none
end Lib
end G7

set_option maxRecDepth 100000
namespace G7
open PySem PySem.Spec PyProof.Rows L2
end G7

set_option maxRecDepth 100000
namespace G7
open PySem PySem.Spec PyProof.Rows L2
end G7

set_option maxRecDepth 100000
namespace G7
open PySem PySem.Spec PyProof.Rows L2
end G7

set_option maxRecDepth 100000
namespace G7
open PySem
namespace Lib
def subsL : List Int → List (List Int)
  | [] => [[]]
  | x :: l => subsL l ++ (subsL l).map (x :: ·)
theorem subsL_len : ∀ l : List Int, (subsL l).length = 2 ^ l.length
  | [] => rfl
  | x :: l => by simp [subsL, subsL_len l, Nat.pow_succ]; omega
def OkB (w : Web) (t : Int) (k : Nat) (m : List (List Int)) : Prop := m.Nodup ∧ (∀ q ∈ m, q ∈ subsL (irng 0 w.n)) ∧ ∀ q ∈ m, k ≤ q.length → ∀ o : List Int, o.Perm q → goF w t (w.n.toNat - q.length) o = none
theorem OkB.len {w : Web} (ok : w.ok) {t : Int} {k : Nat} {m : List (List Int)} (h : OkB w t k m) : m.length ≤ 512 := by
  have n9 := ok.n9
  have h1 := nodup_leG h.1 h.2.1
  rw [subsL_len, ints_len] at h1
  have h2 : 2 ^ (w.n - 0).toNat ≤ 2 ^ 9 := Nat.pow_le_pow_right (by decide) (by omega)
  omega
end Lib
end G7

set_option maxRecDepth 100000
namespace G7
open PySem
namespace Lib
end Lib
end G7

set_option maxRecDepth 100000
namespace G7
open PySem PySem.Spec PyProof.Rows L2
section
variable {X : Cx} {κ : List SK} {M N : List Nat} {f : WG} {ts : List Nat} {w : WE}
theorem Res.noEx {K : PySem.W.Frag} {g : Rg} {k : RK} {H H' : Hp} {v : V} {cn : Str} (kk : k = .fz ∨ k = .nw) (r : Res K g k H H' v (exD cn)) : False := by
  have r' : ∃ S, Rep K H' S v (exD cn) ∨ ∃ p, Obj1 K H' S p (exD cn) := by
    rcases kk with rfl | rfl
    · exact ⟨_, .inl r⟩
    · obtain ⟨p, _, _, _, _, r⟩ := r; exact ⟨_, .inr ⟨p, r⟩⟩
  obtain ⟨S, r' | ⟨p, r'⟩⟩ := r'
  · exact Rep.noEx r'
  · exact Rep.noEx (S := fun _ => False) ((r'.keep (S' := fun _ => False) (fun _ q => q) (fun _ _ _ q => q) fun _ q => q.elim).rep fun q => q)
variable {Wx : WX} {k : RK} {elt tg iter : Expr} {ifs : List Expr} {scope : Scope} {own : List (Str × Nat)} {pos : Pos} {t : WT} {w0 : WE}
theorem SEX.nf {e : Expr} (h : SEX X Wx κ M .nw e w) : SEX X Wx κ M .fz e w :=
  SEX.of h fun σ H Q ⟨g, env, W, F, hw, post, px⟩ => ⟨g, env, W, F, hw, fun v H' g' env' d F' s ⟨p, e1, n, hO, hP, r⟩ wd => by
    subst e1
    have F2 : Frm X.K κ { g' with O := g.O } env' σ H' := F'.less rfl rfl rfl (fun a q => F.il a (by rw [← s.I]; exact q)) (fun a q => (F.pl a (by rw [← s.P]; exact q)).1) s.up
    refine post _ H' { g' with O := g.O } env' d F2 ⟨s.al, s.P, s.I, fun _ q => q, fun _ q => .inl q, s.keep, s.pool⟩ ?_ wd
    have sub : ∀ a, Rg.own { g' with O := g.O } a → g'.own a := fun a q => q.imp (s.up a) id
    have np : ¬ Rg.own { g' with O := g.O } p := fun q => by
      rcases q with q | ⟨i, q⟩
      · exact F.ot p q n
      · exact (F'.alo i p q).1 hO
    exact (r.keep (S' := Rg.own { g' with O := g.O }) (H' := H') (fun _ q => q) (fun _ _ _ q => q) fun a q => .inl (sub a q)).rep np, px⟩
end
end G7

set_option maxRecDepth 100000
namespace G7
open PySem
namespace Lib
theorem not_ex_str {x : Str} : ∀ cn, (PyData.str x : D) ≠ exD cn := fun cn h => by unfold exD at h; cases h
theorem not_ex_list {xs : List D} : ∀ cn, (PyData.list xs : D) ≠ exD cn := fun cn h => by unfold exD at h; cases h
end Lib
end G7

set_option maxRecDepth 100000
namespace G7
open PySem
namespace Lib
theorem flat0s_int (l : List Int) : flat0s (l.map .int) = true := by
  induction l with
  | nil => rfl
  | cons x l ih => simp [flat0s, flat0, ih]
theorem flat1s_int (l : List Int) : flat1s (l.map .int) = true := by
  induction l with
  | nil => rfl
  | cons x l ih => simp [flat1s, flat1, flat0, ih]
theorem flat0s_dP (l : List (Int × Int)) : flat0s (l.map dP) = true := by
  induction l with
  | nil => rfl
  | cons x l ih => simp [flat0s, flat0, dP, ih]
theorem flat_w (w : Web) : flat1 (dW w) = true := by
  show (flat0 (.int w.n) && (flat0 (.tuple (w.ts.map dP)) && true)) = true
  simp [flat0, flat0s_dP]
theorem flat1s_map {α : Type} {f : α → D} {l : List α} (h : ∀ x ∈ l, flat1 (f x) = true) : flat1s (l.map f) = true := by
  induction l with
  | nil => rfl
  | cons x l ih => simp [flat1s, h x (by simp), ih fun y hy => h y (by simp [hy])]
theorem keep_n {k : SK} {κ : List SK} {x : Option D} {e e' : En} (h : KeepE κ e e') : KeepE (k :: κ) (x :: e) (none :: e') := by
  cases x <;> exact h
theorem keep_s {k : SK} {κ : List SK} {d : D} {e e' : En} (h : KeepE κ e e') (hk : keepV k d = true) : KeepE (k :: κ) (some d :: e) (some d :: e') := ⟨rfl, hk, h⟩
theorem i_mutV {κ : List SK} {sp : Option Nat} {wo b : WE} {nx bk ct : En → Prop} {rt : D → En → Prop} {e : En} (k : wo e fun x e0 => e0 = e ∧ ∃ ys, x = .list ys ∧ flat1s ys = true ∧ b e0 fun y e1 => e1 = e0 ∧ flat1 y = true ∧ ys.length < lim ∧ ∃ e', KeepE κ e1 e' ∧ nxV sp y e1 e' nx) : wMutV κ sp wo b ⟨nx, rt, bk, ct⟩ e := k
theorem i_seqH {a : WE} {e : En} {Q : List D → En → Prop} (k : a e fun x e1 => ∃ xs, x = .list xs ∧ flat1s xs = true ∧ Q xs e1) : wiSeqH a e Q := k
end Lib
end G7

set_option maxRecDepth 100000
namespace G7
open PySem
namespace Lib
end Lib
end G7

set_option maxRecDepth 4000
namespace G7
namespace Lib
open PySem
structure SFa (n : Int) (ts : List (Int × Int)) (L : List (List Int)) : Prop where
  nd : L.Nodup
  mem : ∀ p, p ∈ L ↔ isP ⟨n, ts⟩ p ∧ Acyc (arw ⟨n, ts⟩ p)
  srt : L.Pairwise leT
open Classical in
noncomputable def bitFa (n : Int) (ts : List (Int × Int)) (p : List Int) (bs : List Int) : List (List Int) := (bs.filter fun x => acB (arw ⟨n, ts⟩ (p ++ [x]))).map fun x => p ++ [x]
theorem SFa.start {n : Int} : SFa n [] [[]] := by
  refine ⟨by simp, fun p => ?_, by simp⟩
  simp only [List.mem_singleton]
  constructor
  · rintro rfl
    exact ⟨⟨rfl, by simp⟩, ⟨fun _ => 0, by intro t ht; simp [arw] at ht⟩⟩
  · rintro ⟨⟨h1, _⟩, _⟩
    exact List.length_eq_zero_iff.mp h1
theorem leT_appA : ∀ {p q a b : List Int}, p.length = q.length → leT p q → p ≠ q → leT (p ++ a) (q ++ b)
  | [], [], _, _, _, _, h => absurd rfl h
  | [], _ :: _, _, _, h, _, _ => by simp at h
  | _ :: _, [], _, _, h, _, _ => by simp at h
  | x :: p, y :: q, a, b, hl, h, hn => by
    unfold leT at h ⊢
    rw [HT.lexLt_cons] at h
    rw [List.cons_append, List.cons_append, HT.lexLt_cons]
    by_cases e : y = x
    · rw [if_pos e] at h ⊢
      refine leT_appA (by simpa using hl) h fun c => hn ?_
      rw [c, e]
    · rw [if_neg e] at h ⊢
      exact h
theorem leT_bitA {p : List Int} : ∀ {x y : Int}, x ≤ y → leT (p ++ [x]) (p ++ [y]) := by
  induction p with
  | nil =>
    intro x y h
    unfold leT
    rw [List.nil_append, List.nil_append, HT.lexLt_cons]
    by_cases e : y = x
    · rw [if_pos e]; rfl
    · rw [if_neg e]; exact decide_eq_false (by omega)
  | cons z p ih =>
    intro x y h
    unfold leT
    rw [List.cons_append, List.cons_append, HT.lexLt_cons, if_pos rfl]
    exact ih h
theorem SFa.step {n : Int} {ts : List (Int × Int)} {L : List (List Int)} (h : SFa n ts L) (t : Int × Int) : SFa n (ts ++ [t]) (L.flatMap fun p => bitFa n (ts ++ [t]) p [0, 1]) := by
  have hlen : ∀ p ∈ L, p.length = ts.length := fun p hp => ((h.mem p).mp hp).1.1
  refine ⟨?_, fun q => ?_, ?_⟩
  · unfold List.Nodup
    rw [List.pairwise_flatMap]
    refine ⟨fun p _ => ?_, ?_⟩
    · unfold bitFa
      rw [List.pairwise_map]
      refine List.Pairwise.filter _ ?_
      simp
    · refine (List.nodup_iff_pairwise_ne.mp h.nd).imp ?_
      intro p q hne u hu v hv e
      obtain ⟨x, _, rfl⟩ := List.mem_map.mp hu
      obtain ⟨y, _, rfl⟩ := List.mem_map.mp hv
      exact hne (List.append_inj' e rfl).1
  · rw [List.mem_flatMap, isP_snoc]
    constructor
    · rintro ⟨p, hp, hq⟩
      obtain ⟨x, hx, rfl⟩ := List.mem_map.mp hq
      obtain ⟨h1, h2⟩ := List.mem_filter.mp hx
      exact ⟨⟨p, x, rfl, ((h.mem p).mp hp).1, by simpa using h1⟩, acB_t.mp h2⟩
    · rintro ⟨⟨p, x, rfl, hp, hx⟩, ac⟩
      refine ⟨p, (h.mem p).mpr ⟨hp, ac.sub fun s hs => by rw [arw_snoc hp.1]; exact List.mem_append_left _ hs⟩, List.mem_map.mpr ⟨x, List.mem_filter.mpr ⟨by simpa using hx, acB_t.mpr ac⟩, rfl⟩⟩
  · rw [List.pairwise_flatMap]
    refine ⟨fun p _ => ?_, ?_⟩
    · unfold bitFa
      rw [List.pairwise_map]
      refine List.Pairwise.filter _ ?_
      simp only [List.pairwise_cons, List.mem_singleton, List.not_mem_nil, false_imp_iff, implies_true, List.Pairwise.nil, and_true]
      rintro y rfl
      exact leT_bitA (by omega)
    · refine (h.srt.and (List.nodup_iff_pairwise_ne.mp h.nd)).imp_of_mem ?_
      intro p q hp hq hpq u hu v hv
      obtain ⟨x, _, rfl⟩ := List.mem_map.mp hu
      obtain ⟨y, _, rfl⟩ := List.mem_map.mp hv
      exact leT_appA (by rw [hlen p hp, hlen q hq]) hpq.1 hpq.2
theorem SFa.few {n : Int} {ts : List (Int × Int)} {L : List (List Int)} (h : SFa n ts L) (h8 : ts.length ≤ 8) : L.length ≤ 256 := falls_few (w := ⟨n, ts⟩) (k := 8) h8 h.nd fun p hp => ((h.mem p).mp hp).1
end Lib
end G7

namespace G7
open PySem

local macro_rules | `(tactic| walk_at "op") => `(tactic| first
  | with_reducible exact addD_i _ _ | with_reducible exact subD_i _ _ | with_reducible exact ltD_i _ _ | with_reducible exact leD_i _ _ | with_reducible exact gtD_i _ _ | with_reducible exact geD_i _ _
  | with_reducible exact eqD_i _ _ | with_reducible exact neD_i _ _ | with_reducible exact lenD_lm | with_reducible exact lenD_tm | with_reducible exact lenD_l _ | with_reducible exact lenD_t _ | with_reducible exact dP_0 _ | with_reducible exact dP_1 _
  | with_reducible exact ixD_t0 _ _ | with_reducible exact ixD_t1 _ _ _ | with_reducible exact ixD_t2 _ _ _ _ | with_reducible exact ixD_l0 _ _ | with_reducible exact ixD_l0m | with_reducible exact ixD_t0m | exact eqD_sT | exact eqD_sF | exact neD_sT | exact neD_sF | with_reducible exact ixD_l1 _ _ _
  | with_reducible exact Lib.dW_0 _ | with_reducible exact Lib.dW_1 _ | with_reducible exact tupD_l _ | with_reducible exact tupD_t _ | with_reducible exact lstD_l _ | with_reducible exact lstD_t _ | with_reducible exact max2D_i _ _ | with_reducible exact min2D_i _ _
  | with_reducible exact isTD_i | with_reducible exact revT_m | with_reducible exact slL_m1 | with_reducible exact tupRevD_m | ((with_reducible refine' indexD_li ?_); with_reducible assumption) | ((with_reducible refine' indexD_xi ?_); with_reducible assumption) | ((with_reducible refine' Lib.indexD_Xi ?_); with_reducible assumption) | with_reducible exact isTD_s _ _ | with_reducible exact powD_6 | with_reducible exact powD_16 | with_reducible exact powD_18 | with_reducible exact isTD_t _ _ | with_reducible exact isTD_l _ _ | with_reducible exact isTD_b _ _ | with_reducible exact isTD_n _ | with_reducible exact isD_bb _ _ | with_reducible exact isNotD_bb _ _ | with_reducible exact isD_n' () | with_reducible exact isD_lN _ | with_reducible exact isD_tN _ | with_reducible exact isNotD_lN _ | with_reducible exact isNotD_tN _ | with_reducible exact intD_b _ | with_reducible exact intD_i _ | with_reducible exact negD_i _ | with_reducible exact eqD_b _ _ | with_reducible exact neD_b _ _
  | with_reducible exact neD_l0 _ | with_reducible exact eqD_l0 _ | with_reducible exact eqD_li _ _ | with_reducible exact neD_li _ _ | with_reducible exact eqD_ti _ _ | with_reducible exact neD_ti _ _
  | with_reducible exact eqD_lp _ _ | with_reducible exact neD_lp _ _ | with_reducible exact eqD_tp _ _ | with_reducible exact neD_tp _ _
  | with_reducible exact inD_li _ _ | with_reducible exact inD_ti _ _ | with_reducible exact notInD_li _ _ | with_reducible exact notInD_ti _ _ | with_reducible exact inD_lp _ _ | with_reducible exact inD_tp _ _
  | with_reducible exact notInD_lp _ _ | with_reducible exact notInD_tp _ _ | with_reducible exact inD_lp' _ _ _ | with_reducible exact inD_tp' _ _ _ | with_reducible exact notInD_lp' _ _ _ | with_reducible exact notInD_tp' _ _ _
  | with_reducible exact inD_pair _ _ _ | with_reducible exact sortedAD_i _ | with_reducible exact sortedAD_p _ | with_reducible exact allD_b _ | with_reducible exact anyD_b _
  | ((with_reducible refine' addD_1m ?_); omega) | with_reducible exact Lib.maxAD_0 _ | with_reducible exact Lib.din_dI _ _ | with_reducible exact Lib.dinTD_p _ _ | with_reducible exact Lib.dninTD_p _ _ | with_reducible exact Lib.lenTD_p _ | with_reducible exact Lib.sortTLD_p _ | with_reducible exact Lib.dnin_dI _ _ | ((with_reducible apply Lib.dget_dI); with_reducible assumption) | ((with_reducible refine' repLD_0 ?_ ?_) <;> omega) | ((with_reducible refine' slT_tom ?_); omega) | ((with_reducible refine' slT_frm ?_); omega) | ((with_reducible refine' slL_tom ?_); omega) | ((with_reducible refine' slL_frm ?_); omega) | ((with_reducible refine' modD_i ?_); omega) | ((with_reducible refine' fdivD_i ?_ ?_) <;> omega) | ((with_reducible refine' mulID_i (okMul_l ?_ ?_)) <;> omega) | ((with_reducible refine' mulID_i (okMul_r ?_ ?_)) <;> omega)
  | ((with_reducible refine' ixD_lm ?_ ?_) <;> omega) | ((with_reducible refine' ixD_tm ?_ ?_) <;> omega) | with_reducible assumption)
local macro_rules | `(tactic| walk_at "env") => `(tactic| simp only [List.set_cons_zero, List.set_cons_succ, upd, wp_cons, wp_nil, back_cons, back_nil, List.getElem?_cons_zero, List.getElem?_cons_succ, Option.getD_some, toF])
local macro_rules | `(tactic| walk_at "cond") => `(tactic| first | assumption | omega | exact rfl | (focus (simp; done)))
local macro_rules | `(tactic| walk_at "mut") => `(tactic| first | ((with_reducible refine' popAtF_m ?_ ?_) <;> omega) | ((with_reducible refine' appendF_m ?_); first | omega | (simp only [List.length_append, List.length_map, List.length_cons, List.length_nil]; omega)) | ((with_reducible refine' removeF_i ?_); (first | assumption | (simp; done))) | ((with_reducible refine' extendF_m ?_); first | omega | (simp only [List.length_append, List.length_map, List.length_cons, List.length_nil]; omega)))
local macro_rules | `(tactic| walk_at "s") => `(tactic| first
  | with_reducible refine' i_seq ?_ | ((with_reducible apply i_frz); (exact rfl); (first | exact nt_l | exact nt_d)) | ((with_reducible apply i_asV); (exact rfl)) | ((with_reducible apply i_asO); (exact rfl); (first | exact nt_l | exact nt_d)) | with_reducible refine' i_op2 ?_ | with_reducible refine' i_acons ?_ | with_reducible refine' i_anil ?_ | ((with_reducible apply i_var); exact rfl) | with_reducible refine' i_c ?_
  | with_reducible refine' i_asg ?_ | with_reducible refine' i_par ?_ | with_reducible refine' i_par2 ?_ | with_reducible refine' i_call ?_ | with_reducible refine' i_blt ?_ | with_reducible refine' i_op1 ?_ | with_reducible refine' i_tup ?_ | with_reducible refine' i_list ?_
  | ((with_reducible apply i_ex); walk_at "op") | ((with_reducible apply i_exk); walk_at "op")
  | with_reducible refine' i_val ?_ | with_reducible refine' i_exb ?_ | with_reducible refine' i_if ?_ | with_reducible refine' i_ret ?_ | with_reducible refine' i_nil ?_
  | with_reducible refine' i_T ?_ | with_reducible refine' i_F ?_ | with_reducible refine' i_tand ?_ | with_reducible refine' i_tor ?_ | with_reducible refine' i_tnot ?_ | with_reducible refine' i_yes ?_
  | with_reducible refine' i_and ?_ | with_reducible refine' i_or ?_ | with_reducible refine' i_not ?_ | with_reducible refine' i_ife ?_ | with_reducible refine' i_chain ?_
  | with_reducible refine' i_comp ?_ | with_reducible refine' i_iseq ?_ | with_reducible refine' i_irg1 ?_ | with_reducible refine' i_irg2 ?_ | with_reducible refine' i_izip ?_ | with_reducible refine' i_lstZ ?_ | with_reducible refine' i_lzT ?_ | with_reducible refine' i_lzL ?_ | with_reducible refine' i_disp1 ?_ | with_reducible refine' i_keyI ?_ | with_reducible refine' i_zipT ?_ | with_reducible refine' i_zipL ?_ | with_reducible refine' i_ienum ?_ | ((with_reducible apply i_enum); exact rfl) | with_reducible refine' i_irev ?_
  | with_reducible refine' i_for ?_ | with_reducible refine' i_lstrg ?_ | with_reducible refine' i_asgG ?_ | with_reducible refine' i_asgP ?_ | with_reducible refine' i_expr ?_ | with_reducible refine' i_retN ?_ | with_reducible refine' i_brk ?_ | with_reducible refine' i_cnt ?_
  | with_reducible refine' i_on ?_ | with_reducible refine' i_os ?_ | with_reducible refine' i_sl ?_ | ((with_reducible apply i_exl); exact rfl)
  | ((with_reducible refine' i_rg1 ?_ ?_); (constructor <;> omega)) | ((with_reducible refine' i_rg2 ?_ ?_); (refine ⟨?_, ?_, ?_, ?_⟩ <;> omega))
  | with_reducible refine' i_exi ?_
  | (with_reducible refine' i_len (Nat.le_of_ble_eq_true rfl) ?_)
  | ((with_reducible apply i_g); exact rfl) | ((with_reducible refine' i_plix ?_ ?_); exact rfl) | with_reducible refine' i_plset ?_ | with_reducible refine' i_np ?_
  | with_reducible refine' Lib.i_xt ?_ | with_reducible refine' Lib.i_idxX ?_ | with_reducible refine' i_idxL ?_ | with_reducible refine' i_idl ?_ | with_reducible refine' i_idx ?_
  | ((with_reducible apply i_mut1); (exact rfl); walk_at "mut")
  | ((with_reducible apply Lib.i_keysT); exact rfl) | (with_reducible refine' Lib.i_dputT ?_) | ((with_reducible apply Lib.i_dputT0); exact rfl) | ((with_reducible apply Lib.i_dputT1); (exact rfl); omega)
  | (with_reducible refine' Lib.i_dput ?_) | ((with_reducible apply Lib.i_dput0); exact rfl) | ((with_reducible apply Lib.i_dput1); (exact rfl); omega)
  | ((with_reducible refine' i_dT ?_ ?_); walk_at "cond") | ((with_reducible refine' i_dF ?_ ?_); walk_at "cond") | ((with_reducible refine' i_ndT ?_ ?_); walk_at "cond") | ((with_reducible refine' i_ndF ?_ ?_); walk_at "cond")
  | ((with_reducible refine' i_bT ?_ ?_); (first | with_reducible assumption | exact rfl)) | ((with_reducible refine' i_bF ?_ ?_); (first | with_reducible assumption | exact rfl))
  | ((with_reducible apply i_setixm); (exact rfl); omega; omega) | (with_reducible refine' i_setix ?_) | ((with_reducible apply i_setix0); exact rfl) | ((with_reducible apply i_mut); exact rfl))
local macro_rules | `(tactic| walk_at "run") => `(tactic| (repeat (walk_at "s")); try walk_at "env")
local macro_rules | `(tactic| walk_at "start") => `(tactic| simp only [startE, List.map_cons, List.map_nil, List.length_cons, List.length_nil, Nat.reduceAdd, Nat.reduceSub, Nat.zero_add, List.replicate_succ, List.replicate_zero, List.cons_append, List.nil_append])
local macro_rules | `(tactic| walk_at "len") => `(tactic| first | omega | (simp only [List.length_map, List.length_append, List.length_cons, List.length_nil]; omega) | (refine Nat.le_trans ?_ (Nat.le_refl _); have := List.length_filter_le; simp_all; done))
local macro_rules | `(tactic| walk_at "opl") => `(tactic| first | ((with_reducible refine' addD_lm ?_); walk_at "len") | ((with_reducible refine' addD_tm ?_); walk_at "len") | ((with_reducible refine' addLD_lm ?_); walk_at "len"))
/-- a comprehension: of what is walked itself, of ints, pairs, truths -/
local macro_rules | `(tactic| walk_at "comp") => `(tactic| first
  | (refine comp_fil ?_ (fun x hx => ?_) ?_; rotate_left 1; focus ((try have hx1 := Fact.use (by assumption) hx); (try have hx2 := mem_ints.mp hx); (try dsimp only at hx1); refine ⟨_, rfl, fun R hR => ?_, fun hp R hR => ?_, rfl⟩ <;> (repeat (walk_at "s")) <;> exact hR))
  | (refine comp_all (en2 := PySem.PyData.int) ?_ (fun x hx => ?_) ?_; rotate_left 1; focus ((try have hx1 := Fact.use (by assumption) hx); (try have hx2 := mem_ints.mp hx); (try dsimp only at hx1); refine ⟨_, rfl, fun R hR => ?_, rfl⟩ <;> (repeat (walk_at "s")) <;> exact hR))
  | (refine comp_all (en2 := PySem.PyData.bool) ?_ (fun x hx => ?_) ?_; rotate_left 1; focus ((try have hx1 := Fact.use (by assumption) hx); (try have hx2 := mem_ints.mp hx); (try dsimp only at hx1); refine ⟨_, rfl, fun R hR => ?_, rfl⟩ <;> (repeat (walk_at "s")) <;> exact hR))
  | (refine comp_all (en2 := dP) ?_ (fun x hx => ?_) ?_; rotate_left 1; focus ((try have hx1 := Fact.use (by assumption) hx); (try have hx2 := mem_ints.mp hx); (try dsimp only at hx1); refine ⟨_, rfl, fun R hR => ?_, rfl⟩ <;> (repeat (walk_at "s")) <;> exact hR))
  | (refine comp_el (en2 := PySem.PyData.int) ?_ ?_ (fun x hx => ?_) ?_; rotate_left 2; focus ((try have hx1 := Fact.use (by assumption) hx); (try have hx2 := mem_ints.mp hx); (try dsimp only at hx1); refine ⟨_, rfl, fun R hR => ?_, fun hp R hR => ?_, rfl⟩ <;> (repeat (walk_at "s")) <;> exact hR))
  | (refine comp_el (en2 := dP) ?_ ?_ (fun x hx => ?_) ?_; rotate_left 2; focus ((try have hx1 := Fact.use (by assumption) hx); (try have hx2 := mem_ints.mp hx); (try dsimp only at hx1); refine ⟨_, rfl, fun R hR => ?_, fun hp R hR => ?_, rfl⟩ <;> (repeat (walk_at "s")) <;> exact hR))
  | (refine comp_el (en2 := PySem.PyData.bool) ?_ ?_ (fun x hx => ?_) ?_; rotate_left 2; focus ((try have hx1 := Fact.use (by assumption) hx); (try have hx2 := mem_ints.mp hx); (try dsimp only at hx1); refine ⟨_, rfl, fun R hR => ?_, fun hp R hR => ?_, rfl⟩ <;> (repeat (walk_at "s")) <;> exact hR))
  | (refine comp_allD (en2 := PySem.PyData.int) ?_ (fun x hx => ?_) ?_; rotate_left 1; focus ((try have hx1 := Fact.use (by assumption) hx); (try dsimp only at hx1); refine ⟨_, rfl, fun R hR => ?_, rfl⟩ <;> (repeat (walk_at "s")) <;> exact hR))
  | (refine comp_allD (en2 := PySem.PyData.bool) ?_ (fun x hx => ?_) ?_; rotate_left 1; focus ((try have hx1 := Fact.use (by assumption) hx); (try dsimp only at hx1); refine ⟨_, rfl, fun R hR => ?_, rfl⟩ <;> (repeat (walk_at "s")) <;> exact hR)))
local macro_rules | `(tactic| walk_at "runc") => `(tactic| (repeat (first | walk_at "s" | walk_at "comp")); try walk_at "env")
/-- as run, but stops ahead of an if -/
local macro_rules | `(tactic| walk_at "runI") => `(tactic| (repeat ((fail_if_success (with_reducible refine' i_if ?_)); walk_at "s")); try walk_at "env")
namespace K20
open PySem Lib
def S_l_pool : FS := Lib.S_l_dig
theorem m_l_pool : ∀ ds Post, S_l_pool ds Post → wb_l_pool { nx := fun _ => Post .none ∧ RK.nw = .fz, rt := fun d _ => Post d } (startE 1 ds) := Lib.m_l_dig
def S_l_next : FS := Lib.S_l_next
theorem m_l_next : ∀ ds Post, S_l_next ds Post → wb_l_next { nx := fun _ => Post .none ∧ RK.fz = .fz, rt := fun d _ => Post d } (startE 5 ds) := Lib.m_l_nextC
def S_l_shuffled : FS := Lib.S_l_shuffled
theorem m_l_shuffled : ∀ ds Post, S_l_shuffled ds Post → wb_l_shuffled S_l_next { nx := fun _ => Post .none ∧ RK.fz = .fz, rt := fun d _ => Post d } (startE 4 ds) := Lib.m_l_shuffled
def S_l_pair : FS := Lib.S_l_pair
theorem m_l_pair : ∀ ds Post, S_l_pair ds Post → wb_l_pair { nx := fun _ => Post .none ∧ RK.fz = .fz, rt := fun d _ => Post d } (startE 2 ds) := Lib.m_l_pair
def S_l_web : FS := Lib.S_l_webD
theorem m_l_web : ∀ ds Post, S_l_web ds Post → wb_l_web S_l_next S_l_shuffled S_l_pair { nx := fun _ => Post .none ∧ RK.fz = .fz, rt := fun d _ => Post d } (startE 12 ds) := Lib.m_l_webD
def S_led_on : FS := Lib.S_led_on
theorem m_led_on : ∀ ds Post, S_led_on ds Post → wb_led_on { nx := fun _ => Post .none ∧ RK.fz = .fz, rt := fun d _ => Post d } (startE 7 ds) := Lib.m_led_on
def S_grown : FS := Lib.S_grown
theorem m_grown : ∀ ds Post, S_grown ds Post → wb_grown S_led_on { nx := fun _ => Post .none ∧ RK.fz = .fz, rt := fun d _ => Post d } (startE 9 ds) := Lib.m_grown
def S_l_lowest : FS := Lib.S_l_lowest
theorem m_l_lowest : ∀ ds Post, S_l_lowest ds Post → wb_l_lowest { nx := fun _ => Post .none ∧ RK.fz = .fz, rt := fun d _ => Post d } (startE 2 ds) := Lib.m_l_lowest
def S_l_counts : FS := Lib.S_l_counts
theorem m_l_counts : ∀ ds Post, S_l_counts ds Post → wb_l_counts S_l_lowest { nx := fun _ => Post .none ∧ RK.fz = .fz, rt := fun d _ => Post d } (startE 11 ds) := Lib.m_l_counts
def S_l_flows : FS := Lib.S_l_flows
theorem m_l_flows : ∀ ds Post, S_l_flows ds Post → wb_l_flows { nx := fun _ => Post .none ∧ RK.fz = .fz, rt := fun d _ => Post d } (startE 6 ds) := Lib.m_l_flows
def S_l_is_fall : FS := Lib.S_is_fall
theorem m_l_is_fall : ∀ ds Post, S_l_is_fall ds Post → wb_l_is_fall S_l_flows { nx := fun _ => Post .none ∧ RK.fz = .fz, rt := fun d _ => Post d } (startE 9 ds) := Lib.m_l_is_fallC
def S_l_ints : FS := Lib.S_l_ints
theorem m_l_ints : ∀ ds Post, S_l_ints ds Post → wb_l_ints { nx := fun _ => Post .none ∧ RK.fz = .fz, rt := fun d _ => Post d } (startE 2 ds) := Lib.m_l_ints
theorem not_ex_str {x : Str} : ∀ cn, (PyData.str x : D) ≠ exD cn := fun cn h => by unfold exD at h; cases h
theorem i_asgX {i : Nat} {w : WE} {W : WD} {e1 : En} (k : w e1 fun d e2 => (∀ cn, d = exD cn → W.rt d e2) ∧ ((∀ cn, d ≠ exD cn) → W.nx (e2.set i (some d)))) : wAsgX i w W e1 := k
/-- beginnings have no more falls -/
theorem pre_ok {w : Web} (o : w.ok) {pre post : List (Int × Int)} (e : w.ts = pre ++ post) : (⟨w.n, pre⟩ : Web).ok := by
  refine ⟨o.n1, o.n9, ?_, fun t ht => o.rg t (by rw [e]; simp [show t ∈ pre from ht]), ?_⟩
  · have := o.len
    rw [e, List.length_append] at this
    show pre.length ≤ 20
    omega
  · have := o.srt
    rw [e] at this
    exact (List.pairwise_append.mp this).1
theorem pre_falls {w : Web} (o : w.ok) {pre post : List (Int × Int)} (e : w.ts = pre ++ post) : (growA w.n pre).length ≤ (fallsL w).length := by
  have op := pre_ok o e
  have h1 : (fallsL ⟨w.n, pre⟩).length = (growA w.n pre).length := by
    unfold fallsL
    rw [(tsort_perm _).length_eq, List.length_map]
  rw [← h1]
  have hin : ∀ t ∈ pre, t ∈ w.ts := fun t ht => by rw [e]; simp [ht]
  have dif : ∀ (h : Int → Int), ∀ t ∈ w.ts, h t.1 * 10 + t.1 ≠ h t.2 * 10 + t.2 := fun h t ht => by
    have := o.rg t ht
    have n9 := o.n9
    omega
  have same : ∀ {h : Int → Int}, NE ⟨w.n, pre⟩ h → ∀ t ∈ pre, (h t.1 * 10 + t.1 < h t.2 * 10 + t.2 ↔ h t.1 < h t.2) := fun {h} nh t ht => by
    have := o.rg t (hin t ht)
    have n9 := o.n9
    have := nh t ht
    omega
  refine rank_le (fallsL_nd op) (fun p => mem_F op) (fun p => mem_F o) (fun h x => h x * 10 + x) (fun h _ => dif h) fun h g hh hg q => ?_
  rw [ptg_eq] at q ⊢
  intro t ht
  rw [← same hh t ht, ← same hg t ht]
  exact q t (hin t ht)
def S_all_falls : FS := fun ds Post => ∃ w, ds = [dW w] ∧ w.ok ∧ ((fallsL w).length ≤ 300 → Post (.list ((fallsL w).map TI))) ∧ (300 < (fallsL w).length → Post (exD "TooMany"))
theorem m_all_falls : ∀ ds Post, S_all_falls ds Post → wb_all_falls S_grown { nx := fun _ => Post .none ∧ RK.fz = .fz, rt := fun d _ => Post d } (startE 6 ds) := by
  rintro ds Post ⟨w, rfl, o, hP, hM⟩
  have n1 := o.n1
  have n9 := o.n9
  have h20 := o.len
  unfold wb_all_falls
  walk_at "start"
  have hr0 : repTD (.tuple [.int 0]) (.int w.n) = some (TI (List.replicate w.n.toNat 0)) := repTD_0 (by omega) (by omega)
  walk_at "run"
  have hrt : ∀ t ∈ w.ts, (0 ≤ t.1 ∧ t.1 < w.n) ∧ (0 ≤ t.2 ∧ t.2 < w.n) ∧ t.1 ≠ t.2 := ties_rg o
  refine for_st (enc := dP) [1, 2, 3] (fun pre vs => ∃ (a b : Option D), (growA w.n pre).length ≤ 300 ∧ vs = [some (.list ((growA w.n pre).map dPR)), a, b]) [_, _, _] rfl ⟨_, _, by show (1 : Nat) ≤ 300; omega, rfl⟩ ?_ ?_
  · rintro pre t post _ hL ⟨a, b, h301, rfl⟩ R hR
    have haf : AF w.n pre (growA w.n pre) := growA_af (by omega) fun u hu => hrt u (by rw [hL]; simp [hu])
    have htt := hrt t (by rw [hL]; simp)
    have hpl : pre.length < w.ts.length := by rw [hL]; simp
    have hpf := pre_falls o (pre := pre ++ [t]) (post := post) (by rw [hL]; simp)
    walk_at "run"
    refine ⟨growA w.n pre, w.n, t.1, t.2, rfl, by omega, by omega, htt.1, htt.2.1, fun z hz => ?_, ?_⟩
    · obtain ⟨h1, h2, _⟩ := haf.rf z hz
      have h3 := ((haf.mem z.1).mp (List.mem_map.mpr ⟨z, hz, rfl⟩)).1.1
      have h3 : z.1.length = pre.length := h3
      exact ⟨by omega, h1, h2⟩
    rw [← growA_snoc]
    by_cases c : (growA w.n (pre ++ [t])).length ≤ 300
    · walk_at "run"
      exact hR [_, _, _] ⟨_, _, c, rfl⟩
    · walk_at "run"
      exact hM (by omega)
  · rintro _ ⟨a, b, h300, rfl⟩
    have haf : AF w.n w.ts (growA w.n w.ts) := growA_af (by omega) hrt
    walk_at "run"
    refine comp_all (en2 := TI) (fun z => z.1) (fun z hz => ⟨_, rfl, fun R hR => ?_, rfl⟩) ?_
    · walk_at "run"
      exact hR
    walk_at "run"
    refine i_ex (sortedTs_TI (tupsOk_isP (w := w) haf.nd fun p hp => ((haf.mem p).mp hp).1)) ?_
    refine hP ?_
    unfold fallsL
    rw [(tsort_perm _).length_eq, List.length_map]
    exact h300
def S_l_told_falls : FS := fun ds Post => ∃ w, ds = [dW w] ∧ w.ok ∧ ((fallsL w).length ≤ 300 → Post (.list ((fallsL w).map TI))) ∧ (300 < (fallsL w).length → Post (.str "many"))
theorem m_l_told_falls : ∀ ds Post, S_l_told_falls ds Post → wb_l_told_falls S_all_falls { nx := fun _ => Post .none ∧ RK.fz = .fz, rt := fun d _ => Post d } (startE 3 ds) := by
  rintro ds Post ⟨w, rfl, o, hP, hM⟩
  unfold wb_l_told_falls
  walk_at "start"
  walk_at "run"
  refine i_tryX ?_
  refine i_asgX ?_
  walk_at "run"
  refine ⟨w, rfl, o, fun h => told not_ex_list ?_, fun h => raised (raised ?_)⟩
  · walk_at "run"
    exact hP h
  · refine .inl ⟨rfl, ?_⟩
    walk_at "run"
    refine i_isE rfl ?_
    walk_at "run"
    refine i_isE rfl ?_
    walk_at "run"
    refine i_isE rfl ?_
    walk_at "run"
    exact hM h
theorem neD_LT (L M : List (List Int)) : neD (.list (L.map TI)) (.list (M.map TI)) = some (.bool (!decide (L = M))) := by
  have e1 : ∀ L : List (List Int), (PyData.list (L.map TI)) = .list (L.map dT) := fun _ => rfl
  rw [e1, e1, neD_lay (lay_lst (lay_map (k := 1) (fun a => lay_dT a) L)) (lay_lst (lay_map (k := 1) (fun a => lay_dT a) M)), eqv_lst eqv_dT]
theorem falls_sorted {w : Web} (o : w.ok) : sortedTsD [.list ((fallsL w).map TI)] = some (.list ((fallsL w).map TI)) := by
  rw [sortedTs_TI (tupsOk_isP (w := w) (fallsL_nd o) fun p hp => ((fallsL_mem o).mp hp).1), falls_one o (fallsL_nd o) fun p => fallsL_mem o]
theorem lenTb_falls {w : Web} (o : w.ok) (h : (fallsL w).length ≤ 300) : lenTbD (.list ((fallsL w).map TI)) = some (.int ((fallsL w).length : Int)) := by
  have hp := (uniq_perm (fallsL_nd o) (L := fallsL w) fun k => Iff.rfl).length_eq
  simp only [lenTbD, tupsD_TI, Option.bind_some]
  rw [if_pos (by omega), ← hp]
theorem last_fo {w : Web} (o : w.ok) : ixD (LI (foF w (2 ^ w.n.toNat) (2 ^ w.n.toNat))) (.int (-1)) = some (.int ((fallsL w).length : Int)) := by
  have hp : 0 < 2 ^ w.n.toNat := Nat.pow_pos (by omega)
  have hca := cnt_all o
  generalize 2 ^ w.n.toNat = N at hp hca
  have hl := fo_len w N N
  have hn : ixN ((foF w N N).map PyData.int).length (-1) = some (N - 1) := by
    rw [List.length_map, hl]
    unfold ixN
    rw [if_neg (by omega), if_pos (by omega)]
    congr 1
    omega
  show (ixN ((foF w N N).map PyData.int).length (-1)).bind _ = _
  rw [hn, Option.bind_some, List.getElem?_map, List.getElem?_eq_getElem (by omega), fo_at (by omega), if_pos (by omega), hca]
  rfl
set_option maxHeartbeats 8000000 in
theorem m_law : ∀ ds Post, lawS ds Post → wb_law S_l_pool S_l_web S_l_next S_l_counts S_l_told_falls S_l_ints S_l_is_fall S_all_falls { nx := fun _ => Post .none ∧ RK.fz = .fz, rt := fun d _ => Post d } (startE 8 ds) := by
  rintro ds Post ⟨ns, rfl, hl, hPost⟩
  unfold wb_law
  walk_at "start"
  have h3 : (ns.take (Int.toNat 3)).length ≤ 1000 := by rw [List.length_take]; omega
  walk_at "run"
  refine i_seqH ?_
  have hns : addLD (.list [.int 0]) (LI (ns.take (Int.toNat 3))) = some (LI (0 :: ns.take (Int.toNat 3))) := addLD_lm (f := PyData.int) (a := [0]) (by simp; omega)
  walk_at "run"
  refine ⟨_, rfl, flat1s_int (0 :: ns.take (Int.toNat 3)), ?_⟩
  refine for_st (enc := .int) (L := 0 :: ns.take (Int.toNat 3)) [0, 1, 2, 3, 4, 5, 6, 7] (fun _ => J8) [_, _, _, _, _, _, _, _] rfl ⟨_, _, _, _, _, _, _, _, rfl⟩ ?_ ?_
  · rintro pre x post _ hL ⟨a, b, c, d, e, f, g, h, rfl⟩ R hR
    clear hL hns
    walk_at "run"
    refine ⟨x, rfl, fun x1 x2 x3 => ?_⟩
    walk_at "run"
    refine ⟨x1, x2, x3, rfl, ?_⟩
    walk_at "run"
    refine ⟨4, rfl, by omega, by omega, fun y y0 y1 => ?_⟩
    obtain ⟨C, hC, C8, C20⟩ : ∃ C : Int, ixD (.list [.int 8, .int 10, .int 12, .int 20]) (.int y) = some (.int C) ∧ 8 ≤ C ∧ C ≤ 20 := by
      have : y = 0 ∨ y = 1 ∨ y = 2 ∨ y = 3 := by omega
      rcases this with rfl | rfl | rfl | rfl
      · exact ⟨8, rfl, by omega, by omega⟩
      · exact ⟨10, rfl, by omega, by omega⟩
      · exact ⟨12, rfl, by omega, by omega⟩
      · exact ⟨20, rfl, by omega, by omega⟩
    walk_at "run"
    refine ⟨9, C, false, rfl, by omega, by omega, by simp, by omega, by omega, fun w o _ _ _ => ?_⟩
    have n1 := o.n1
    have hlast := last_fo o
    have hne : negD (.int 1) = some (.int (-1)) := rfl
    walk_at "run"
    refine ⟨w, rfl, o, ?_⟩
    walk_at "run"
    refine ⟨w, rfl, o, fun h300 => ?_, fun h300 => ?_⟩
    · have hty : isTD "list" (.list ((fallsL w).map TI)) = some (.bool true) := rfl
      have hso := falls_sorted o
      have htb := lenTb_falls o h300
      have hnf : neD (.list ((fallsL w).map TI)) (.list ((fallsL w).map TI)) = some (.bool false) := by rw [neD_LT]; simp
      walk_at "run"
      refine for_st (enc := TI) [6] (fun _ => J1) [_] rfl ⟨_, rfl⟩ ?_ ?_
      · rintro pr2 p po2 _ hL2 ⟨s6, rfl⟩ R2 hR2
        have hp : p ∈ fallsL w := by rw [hL2]; simp
        obtain ⟨hpp, hac⟩ := (fallsL_mem o).mp hp
        have hpl := hpp.1
        have hty2 : isTD "tuple" (TI p) = some (.bool true) := rfl
        walk_at "run"
        refine ⟨TI p, p, rfl, rfl, ?_⟩
        walk_at "run"
        refine ⟨w, p, rfl, o, hpp, ?_⟩
        rw [acB_t.mpr hac]
        walk_at "run"
        exact hR2 [_] ⟨_, rfl⟩
      rintro _ ⟨s6, rfl⟩
      walk_at "run"
      refine i_mutV ?_
      walk_at "run"
      have hfl : flat1s ((fallsL w).map TI) = true := flat1s_map fun p _ => flat0s_int p
      refine ⟨trivial, (fallsL w).map TI, rfl, hfl, ?_⟩
      walk_at "run"
      refine ⟨trivial, rfl, by rw [List.length_map]; have : lim = 1000000 := rfl; omega, ?_⟩
      refine ⟨[none, some (.int x), some .none, some (dW w), some (.int ((fallsL w).length : Int)), none, none, some (.list ((fallsL w).map TI))], keep_n (keep_s (keep_s (keep_s (keep_s (keep_n (keep_n (keep_s trivial hfl))) rfl) (flat_w w)) rfl) rfl), ?_⟩
      unfold nxV
      walk_at "run"
      refine i_callN ?_
      walk_at "run"
      refine ⟨w, rfl, o, fun _ => ⟨not_ex_list, ?_⟩, fun h => absurd h (by omega)⟩
      walk_at "run"
      exact hR [_, _, _, _, _, _, _, _] ⟨_, _, _, _, _, _, _, _, rfl⟩
    · walk_at "run"
      exact hR [_, _, _, _, _, _, _, _] ⟨_, _, _, _, _, _, _, _, rfl⟩
  · rintro _ ⟨a, b, c, d, e, f, g, h, rfl⟩
    walk_at "run"
    exact hPost

end K20
end G7
set_option maxRecDepth 100000
set_option maxHeartbeats 4000000
namespace G7
namespace K20
open PySem PySem.Spec PyProof.Rows L2
def topS (i : Nat) : Stmt := PySem.Challenge.pw_rillturn_k20_all_falls.main.body.getD i (.Pass ⟨0, 0, 0, 0⟩)
structure TX (K : PySem.W.Frag) (mg : Str → Option Value) (C_Apart C_NoTie C_RillError C_TooMany : Addr) : Prop where
  g_Apart : mg "Apart" = some (.ref C_Apart)
  g_NoTie : mg "NoTie" = some (.ref C_NoTie)
  g_RillError : mg "RillError" = some (.ref C_RillError)
  g_TooMany : mg "TooMany" = some (.ref C_TooMany)
  k_Apart : PySem.W.keepIn K (.ref C_Apart) = true
  bs_Apart : PySem.W.subIn K (.ref C_Apart) (.type "BaseException") = some true
  ty_Apart : PySem.W.typeIn K (.ref C_Apart) = some (.type "type")
  is_Apart : PySem.W.isClsIn K C_Apart = true
  hd_Apart : PySem.W.hasDictIn K C_Apart = true
  sf_Apart : PySem.W.subIn K (.ref C_Apart) (.ref C_Apart) = some true
  k_NoTie : PySem.W.keepIn K (.ref C_NoTie) = true
  bs_NoTie : PySem.W.subIn K (.ref C_NoTie) (.type "BaseException") = some true
  ty_NoTie : PySem.W.typeIn K (.ref C_NoTie) = some (.type "type")
  is_NoTie : PySem.W.isClsIn K C_NoTie = true
  hd_NoTie : PySem.W.hasDictIn K C_NoTie = true
  sf_NoTie : PySem.W.subIn K (.ref C_NoTie) (.ref C_NoTie) = some true
  k_RillError : PySem.W.keepIn K (.ref C_RillError) = true
  bs_RillError : PySem.W.subIn K (.ref C_RillError) (.type "BaseException") = some true
  ty_RillError : PySem.W.typeIn K (.ref C_RillError) = some (.type "type")
  is_RillError : PySem.W.isClsIn K C_RillError = true
  hd_RillError : PySem.W.hasDictIn K C_RillError = true
  sf_RillError : PySem.W.subIn K (.ref C_RillError) (.ref C_RillError) = some true
  k_TooMany : PySem.W.keepIn K (.ref C_TooMany) = true
  bs_TooMany : PySem.W.subIn K (.ref C_TooMany) (.type "BaseException") = some true
  ty_TooMany : PySem.W.typeIn K (.ref C_TooMany) = some (.type "type")
  is_TooMany : PySem.W.isClsIn K C_TooMany = true
  hd_TooMany : PySem.W.hasDictIn K C_TooMany = true
  sf_TooMany : PySem.W.subIn K (.ref C_TooMany) (.ref C_TooMany) = some true
  ga_TooMany : PySem.W.findIn K (.ref C_TooMany) "__getattribute__" = some (some (.builtin "BaseException.__getattribute__"))
  gg_TooMany : PySem.W.findIn K (.ref C_TooMany) "__getattr__" = some none
  gc_TooMany : PySem.W.findIn K (.ref C_TooMany) "__class__" = some (some (.builtin "object.__class__"))
  mo_TooMany : PySem.W.mroIn K C_TooMany (.type "object") = some true
  x_TooMany : PySem.W.excIn K C_TooMany [.type "ValueError", .type "Exception", .type "BaseException", .type "object"] "ValueError.__new__" = true
  su_TooMany_Apart : PySem.W.subIn K (.ref C_TooMany) (.ref C_Apart) = some false
  su_TooMany_NoTie : PySem.W.subIn K (.ref C_TooMany) (.ref C_NoTie) = some false
  su_TooMany_RillError : PySem.W.subIn K (.ref C_TooMany) (.ref C_RillError) = some true
  su_TooMany_TooMany : PySem.W.subIn K (.ref C_TooMany) (.ref C_TooMany) = some true
  sv_TooMany : PySem.W.subIn K (.ref C_TooMany) (.type "ValueError") = some true
  sp0 : PySem.W.specialIn K (.builtin "object.__class__") "__get__" = some (some (.builtin "getset_descriptor.__get__"))
  tk0 : PySem.W.takesIn K (.builtin "object.__class__") = some true
  b_ValueError : mg "ValueError" = none
  b_all : mg "all" = none
  b_bool : mg "bool" = none
  b_enumerate : mg "enumerate" = none
  b_int : mg "int" = none
  b_isinstance : mg "isinstance" = none
  b_len : mg "len" = none
  b_list : mg "list" = none
  b_max : mg "max" = none
  b_min : mg "min" = none
  b_range : mg "range" = none
  b_set : mg "set" = none
  b_sorted : mg "sorted" = none
  b_tuple : mg "tuple" = none
  c_MOST_FALLS : ∃ t : Tok, mg "MOST_FALLS" = some (.int 300 t)
abbrev s_l_pool : Stmt := topS 11
abbrev N_l_pool : List Str := ["cell"]
abbrev k_l_pool : List SK := [.r]
theorem sc_l_pool : FnScope N_l_pool ["cell"] (defScope s_l_pool) := ⟨rfl, rfl, rfl, by decide +kernel, rfl, by decide +kernel, by decide +kernel⟩
theorem b_l_pool {P : Program} {w : World} {K : PySem.W.Frag} {mg : Str → Option Value} {base : Heap} {C_Apart C_NoTie C_RillError C_TooMany : Addr} (T : TX K mg C_Apart C_NoTie C_RillError C_TooMany) {f : Addr} (cdv : Value) (A : Around) (outer : List Env) (s : Shared) (H : Hp) (E : XK) (hr : Room 0 (A.deeper (envOfC "_law_pool" (defScope s_l_pool) s.heap.objs.size f cdv))) :
    SSs (cxOf CX0 P w K mg base N_l_pool "_law_pool" (defScope s_l_pool) f cdv A outer s H E).nox k_l_pool [] .nw (defBody s_l_pool) (wb_l_pool) :=
  (sss_one (ss_retw (Me := []) (se_lst (sa_cons (se_blt (call_max2 rfl) bd_max2 (by rfl) T.b_max bt_max (sa_cons se_int (sa_cons (se_bin op_sub od_sub (se_r (pv 0) rfl) (se_bin op_pow od_pow se_int se_int)) sa_nil))) (sa_cons (se_bin op_mod od_mod (se_r (pv 0) rfl) (se_bin op_pow od_pow se_int se_int)) (sa_cons se_int sa_nil))))))
theorem g_l_pool {P : Program} {w : World} {K : PySem.W.Frag} {mg : Str → Option Value} {base : Heap} {f : Addr} {fd : FuncData} {C_Apart C_NoTie C_RillError C_TooMany : Addr} (T : TX K mg C_Apart C_NoTie C_RillError C_TooMany) (F : Fun K "_law_pool" "_law_pool" s_l_pool f fd) (hm : mg "_law_pool" = some (.ref f)) : FnB P w K mg base 1 "_law_pool" ["cell"] [.rd] .nw S_l_pool :=
  ⟨f, fd, fn_def [.rd] F sc_l_pool rfl rfl rfl (by first | exact .inl rfl | exact .inr rfl) (by intro i; match i with | i => exact noq (by decide) i) (b_l_pool T) m_l_pool, hm, F.kp, F.binds fun _ _ _ _ _ _ us hl => match us, hl with | [_], _ => rfl⟩
abbrev s_l_next : Stmt := topS 12
abbrev N_l_next : List Str := ["pool", "base", "digit", "mixed", "stir"]
abbrev k_l_next : List SK := [.p, .r, .v, .v, .v]
theorem sc_l_next : FnScope N_l_next ["pool", "base"] (defScope s_l_next) := ⟨rfl, rfl, rfl, by decide +kernel, rfl, by decide +kernel, by decide +kernel⟩
theorem b_l_next {P : Program} {w : World} {K : PySem.W.Frag} {mg : Str → Option Value} {base : Heap} {C_Apart C_NoTie C_RillError C_TooMany : Addr} (T : TX K mg C_Apart C_NoTie C_RillError C_TooMany) {f : Addr} (cdv : Value) (A : Around) (outer : List Env) (s : Shared) (H : Hp) (E : XK) (hr : Room 0 (A.deeper (envOfC "_law_next" (defScope s_l_next) s.heap.objs.size f cdv))) :
    SSs (cxOf CX0 P w K mg base N_l_next "_law_next" (defScope s_l_next) f cdv A outer s H E).nox k_l_next [] .fz (defBody s_l_next) (wb_l_next) :=
  (sss_cons (ss_if (Me := []) (st_cmp op_gt od_gt (se_plix (pv 0) rfl) se_int (nomark _)) (sss_cons (ss_set (Me := []) (i := 2) sc_l_next.nd rfl (by first | exact Or.inl rfl | exact Or.inr rfl) (se_bin op_mod od_mod (se_plix (pv 0) rfl) (se_r (pv 1) rfl)) rfl)
      (sss_cons (ss_plset (Me := []) (pv 0) (se_bin op_fdiv od_fdiv (se_plix (pv 0) rfl) (se_r (pv 1) rfl)) rfl)
      (sss_one (ss_ret (Me := []) (se_v (pv 2) rfl))))) sss_nil)
      (sss_cons (ss_plset (Me := []) (pv 0) (se_bin op_addF od_add (se_plix (pv 0) rfl) se_int) rfl)
      (sss_cons (ss_set (Me := []) (i := 3) sc_l_next.nd rfl (by first | exact Or.inl rfl | exact Or.inr rfl) (se_bin op_mod od_mod (se_bin op_addF od_add (se_plix (pv 0) rfl) (se_bin op_mul od_mulI se_int (se_plix (pv 0) rfl))) se_int) rfl)
      (sss_cons (ss_set (Me := []) (i := 4) sc_l_next.nd rfl (by first | exact Or.inl rfl | exact Or.inr rfl) (se_bin op_mod od_mod (se_bin op_mul od_mulI (se_bin op_addF od_add (se_v (pv 3) rfl) se_int) (se_bin op_addF od_add (se_v (pv 3) rfl) se_int)) se_int) rfl)
      (sss_one (ss_ret (Me := []) (se_bin op_mod od_mod (se_bin op_fdiv od_fdiv (se_bin op_mod od_mod (se_bin op_mul od_mulI (se_v (pv 4) rfl) (se_v (pv 4) rfl)) se_int) se_int) (se_r (pv 1) rfl))))))))
theorem g_l_next {P : Program} {w : World} {K : PySem.W.Frag} {mg : Str → Option Value} {base : Heap} {f : Addr} {fd : FuncData} {C_Apart C_NoTie C_RillError C_TooMany : Addr} (T : TX K mg C_Apart C_NoTie C_RillError C_TooMany) (F : Fun K "_law_next" "_law_next" s_l_next f fd) (hm : mg "_law_next" = some (.ref f)) : FnB P w K mg base 1 "_law_next" ["pool", "base"] [.pl, .rd] .fz S_l_next :=
  ⟨f, fd, fn_def [.pl, .rd] F sc_l_next rfl rfl rfl (by first | exact .inl rfl | exact .inr rfl) (by intro i; match i with | i => exact noq (by decide) i) (b_l_next T) m_l_next, hm, F.kp, F.binds fun _ _ _ _ _ _ us hl => match us, hl with | [_, _], _ => rfl⟩
abbrev s_l_shuffled : Stmt := topS 14
abbrev N_l_shuffled : List Str := ["pool", "many", "left", "found"]
abbrev k_l_shuffled : List SK := [.p, .r, .o, .o]
theorem sc_l_shuffled : FnScope N_l_shuffled ["pool", "many"] (defScope s_l_shuffled) := ⟨rfl, rfl, rfl, by decide +kernel, rfl, by decide +kernel, by decide +kernel⟩
theorem b_l_shuffled {P : Program} {w : World} {K : PySem.W.Frag} {mg : Str → Option Value} {base : Heap} {C_Apart C_NoTie C_RillError C_TooMany : Addr} (T : TX K mg C_Apart C_NoTie C_RillError C_TooMany) (G_l_next : FnB P w K mg base 1 "_law_next" ["pool", "base"] [.pl, .rd] .fz S_l_next) {f : Addr} (cdv : Value) (A : Around) (outer : List Env) (s : Shared) (H : Hp) (E : XK) (hr : Room 1 (A.deeper (envOfC "_law_shuffled" (defScope s_l_shuffled) s.heap.objs.size f cdv))) :
    SSs (cxOf CX0 P w K mg base N_l_shuffled "_law_shuffled" (defScope s_l_shuffled) f cdv A outer s H E).nox k_l_shuffled [2, 3] .fz (defBody s_l_shuffled) (wb_l_shuffled S_l_next) :=
  (sss_cons (ss_setO (Me := []) (i := 2) sc_l_shuffled.nd rfl (by first | exact Or.inl rfl | exact Or.inr rfl) (se_lstRg1 (by rfl) T.b_list (by rfl) T.b_range (se_r (pv 1) rfl)) rfl)
      (sss_cons (ss_setO (Me := []) (i := 3) sc_l_shuffled.nd rfl (by first | exact Or.inl rfl | exact Or.inr rfl) (se_lst sa_nil) rfl)
      (sss_cons (ss_while (Me := []) PassesOwn.never (st_cmp (op_neD hr.units) od_ne (se_o (pv 2) rfl) (se_lst sa_nil) (nomark _)) (sss_one (ss_expr (Me := [2, 3]) (se_mut (Ma := [2]) PySem.F.slot_list_append PySem.F.type_list_append mt_append md_append (pv 3) (sa_cons (se_mut (Ma := []) PySem.F.slot_list_pop PySem.F.type_list_pop mt_popAt md_popAt (pv 2) (sa_cons (se_fn G_l_next hr (by rfl) (sa_cons (se_p (pv 0) rfl) (sa_cons (se_blt call_len_seq bd_len (by rfl) T.b_len bt_len (sa_cons (se_o (pv 2) rfl) sa_nil)) sa_nil))) sa_nil) (Or.inl rfl)) sa_nil) (Or.inl rfl)))))
      (sss_one (ss_retof (Me := []) (se_o (pv 3) rfl) rfl)))))
theorem g_l_shuffled {P : Program} {w : World} {K : PySem.W.Frag} {mg : Str → Option Value} {base : Heap} {f : Addr} {fd : FuncData} {C_Apart C_NoTie C_RillError C_TooMany : Addr} (T : TX K mg C_Apart C_NoTie C_RillError C_TooMany) (G_l_next : FnB P w K mg base 1 "_law_next" ["pool", "base"] [.pl, .rd] .fz S_l_next) (F : Fun K "_law_shuffled" "_law_shuffled" s_l_shuffled f fd) (hm : mg "_law_shuffled" = some (.ref f)) : FnB P w K mg base 2 "_law_shuffled" ["pool", "many"] [.pl, .rd] .fz S_l_shuffled :=
  ⟨f, fd, fn_def [.pl, .rd] F sc_l_shuffled rfl rfl rfl (by first | exact .inl rfl | exact .inr rfl) (by intro i; match i with | i => exact noq (by decide) i) (b_l_shuffled T G_l_next) m_l_shuffled, hm, F.kp, F.binds fun _ _ _ _ _ _ us hl => match us, hl with | [_, _], _ => rfl⟩
abbrev s_l_pair : Stmt := topS 15
abbrev N_l_pair : List Str := ["a", "b"]
abbrev k_l_pair : List SK := [.r, .r]
theorem sc_l_pair : FnScope N_l_pair ["a", "b"] (defScope s_l_pair) := ⟨rfl, rfl, rfl, by decide +kernel, rfl, by decide +kernel, by decide +kernel⟩
theorem b_l_pair {P : Program} {w : World} {K : PySem.W.Frag} {mg : Str → Option Value} {base : Heap} {C_Apart C_NoTie C_RillError C_TooMany : Addr} (T : TX K mg C_Apart C_NoTie C_RillError C_TooMany) {f : Addr} (cdv : Value) (A : Around) (outer : List Env) (s : Shared) (H : Hp) (E : XK) (hr : Room 0 (A.deeper (envOfC "_law_pair" (defScope s_l_pair) s.heap.objs.size f cdv))) :
    SSs (cxOf CX0 P w K mg base N_l_pair "_law_pair" (defScope s_l_pair) f cdv A outer s H E).nox k_l_pair [] .fz (defBody s_l_pair) (wb_l_pair) :=
  (sss_one (ss_ret (Me := []) (se_tup (sa_cons (se_blt (call_min2 rfl) bd_min2 (by rfl) T.b_min bt_min (sa_cons (se_r (pv 0) rfl) (sa_cons (se_r (pv 1) rfl) sa_nil))) (sa_cons (se_blt (call_max2 rfl) bd_max2 (by rfl) T.b_max bt_max (sa_cons (se_r (pv 0) rfl) (sa_cons (se_r (pv 1) rfl) sa_nil))) sa_nil)))))
theorem g_l_pair {P : Program} {w : World} {K : PySem.W.Frag} {mg : Str → Option Value} {base : Heap} {f : Addr} {fd : FuncData} {C_Apart C_NoTie C_RillError C_TooMany : Addr} (T : TX K mg C_Apart C_NoTie C_RillError C_TooMany) (F : Fun K "_law_pair" "_law_pair" s_l_pair f fd) (hm : mg "_law_pair" = some (.ref f)) : FnB P w K mg base 1 "_law_pair" ["a", "b"] [.rd, .rd] .fz S_l_pair :=
  ⟨f, fd, fn_def [.rd, .rd] F sc_l_pair rfl rfl rfl (by first | exact .inl rfl | exact .inr rfl) (by intro i; match i with | i => exact noq (by decide) i) (b_l_pair T) m_l_pair, hm, F.kp, F.binds fun _ _ _ _ _ _ us hl => match us, hl with | [_, _], _ => rfl⟩
abbrev s_l_web : Stmt := topS 16
abbrev N_l_web : List Str := ["pool", "most", "room", "whole", "many", "share", "ties", "order", "k", "pairs", "b", "a"]
abbrev k_l_web : List SK := [.p, .r, .r, .r, .v, .v, .o, .v, .v, .o, .v, .v]
theorem sc_l_web : FnScope N_l_web ["pool", "most", "room", "whole"] (defScope s_l_web) := ⟨rfl, rfl, rfl, by decide +kernel, rfl, by decide +kernel, by decide +kernel⟩
theorem b_l_web {P : Program} {w : World} {K : PySem.W.Frag} {mg : Str → Option Value} {base : Heap} {C_Apart C_NoTie C_RillError C_TooMany : Addr} (T : TX K mg C_Apart C_NoTie C_RillError C_TooMany) (G_l_next : FnB P w K mg base 1 "_law_next" ["pool", "base"] [.pl, .rd] .fz S_l_next) (G_l_shuffled : FnB P w K mg base 2 "_law_shuffled" ["pool", "many"] [.pl, .rd] .fz S_l_shuffled) (G_l_pair : FnB P w K mg base 1 "_law_pair" ["a", "b"] [.rd, .rd] .fz S_l_pair) {f : Addr} (cdv : Value) (A : Around) (outer : List Env) (s : Shared) (H : Hp) (E : XK) (hr : Room 2 (A.deeper (envOfC "_law_web" (defScope s_l_web) s.heap.objs.size f cdv))) :
    SSs (cxOf CX0 P w K mg base N_l_web "_law_web" (defScope s_l_web) f cdv A outer s H E).nox k_l_web [6, 9] .fz (defBody s_l_web) (wb_l_web S_l_next S_l_shuffled S_l_pair) :=
  (sss_cons (ss_set (Me := []) (i := 4) sc_l_web.nd rfl (by first | exact Or.inl rfl | exact Or.inr rfl) (se_bin op_addF od_add se_int (se_fn G_l_next hr (by rfl) (sa_cons (se_p (pv 0) rfl) (sa_cons (se_r (pv 1) rfl) sa_nil)))) rfl)
      (sss_cons (ss_set (Me := []) (i := 5) sc_l_web.nd rfl (by first | exact Or.inl rfl | exact Or.inr rfl) (se_ix ix_seq od_ix (se_lst (sa_cons se_int (sa_cons se_int (sa_cons se_int (sa_cons se_int (sa_cons se_int (sa_cons se_int sa_nil))))))) (se_fn G_l_next hr (by rfl) (sa_cons (se_p (pv 0) rfl) (sa_cons se_int sa_nil))) (fun _ _ => rfl)) rfl)
      (sss_cons (ss_setO (Me := []) (i := 6) sc_l_web.nd rfl (by first | exact Or.inl rfl | exact Or.inr rfl) se_dnewT rfl)
      (sss_cons (ss_set (Me := []) (i := 7) sc_l_web.nd rfl (by first | exact Or.inl rfl | exact Or.inr rfl) (se_fn G_l_shuffled hr (by rfl) (sa_cons (se_p (pv 0) rfl) (sa_cons (se_v (pv 4) rfl) sa_nil))) rfl)
      (sss_cons (ss_if (Me := []) (st_valR (se_r (pv 3) rfl)) (sss_one (ss_for (Me := []) PassesOwn.never rfl (si_rg2 (by rfl) T.b_range se_int (se_v (pv 4) rfl)) (sg_name (pg_name (i := 8) sc_l_web.nd rfl (by first | exact Or.inl rfl | exact Or.inr rfl)) rfl) (sss_one (ss_dputT (Me := []) (le65 (room65 hr)) (pv 6) se_bl (se_fn G_l_pair hr (by rfl) (sa_cons (se_ix ix_seq od_ix (se_v (pv 7) rfl) (se_v (pv 8) rfl) (fun _ _ => rfl)) (sa_cons (se_ix ix_seq od_ix (se_v (pv 7) rfl) (se_fn G_l_next hr (by rfl) (sa_cons (se_p (pv 0) rfl) (sa_cons (se_v (pv 8) rfl) sa_nil))) (fun _ _ => rfl)) sa_nil))) (Or.inl rfl) (hs := by rfl))))) sss_nil)
      (sss_cons (ss_if (Me := []) (SW.st (sw_and (st_cmp op_gt od_gt (se_v (pv 4) rfl) se_int (nomark _)) (sw_and (st_cmp op_le od_le (se_bin op_addF od_add (se_blt call_len_dT bd_lenT (by rfl) T.b_len bt_len (sa_cons (se_o (pv 6) rfl) sa_nil)) (se_v (pv 4) rfl)) (se_r (pv 2) rfl) (nomark _)) (sw_and1 (st_cmp (op_eqD hr.units) od_eq (se_fn G_l_next hr (by rfl) (sa_cons (se_p (pv 0) rfl) (sa_cons se_int sa_nil))) se_int (nomark _)))))) (sss_one (ss_for (Me := []) PassesOwn.never rfl (si_rg1 (by rfl) T.b_range (se_v (pv 4) rfl)) (sg_name (pg_name (i := 8) sc_l_web.nd rfl (by first | exact Or.inl rfl | exact Or.inr rfl)) rfl) (sss_one (ss_dputT (Me := []) (le65 (room65 hr)) (pv 6) se_bl (se_fn G_l_pair hr (by rfl) (sa_cons (se_ix ix_seq od_ix (se_v (pv 7) rfl) (se_v (pv 8) rfl) (fun _ _ => rfl)) (sa_cons (se_ix ix_seq od_ix (se_v (pv 7) rfl) (se_bin op_sub od_sub (se_v (pv 8) rfl) se_int) (fun _ _ => rfl)) sa_nil))) (Or.inl rfl) (hs := by rfl))))) sss_nil)
      (sss_cons (ss_setO (Me := []) (i := 9) sc_l_web.nd rfl (by first | exact Or.inl rfl | exact Or.inr rfl) (se_lst sa_nil) rfl)
      (sss_cons (ss_for (Me := []) PassesOwn.never rfl (si_rg1 (by rfl) T.b_range (se_v (pv 4) rfl)) (sg_name (pg_name (i := 10) sc_l_web.nd rfl (by first | exact Or.inl rfl | exact Or.inr rfl)) rfl) (sss_one (ss_expr (Me := [9]) (se_mut (Ma := []) PySem.F.slot_list_extend PySem.F.type_list_extend mt_extend md_extend (pv 9) (sa_cons (se_lc rfl sc_l_web.nd (si_rg1 (by rfl) T.b_range (se_v (pv 10) rfl)) (own := [("a", 11)]) (blkOk_by (by kernel_rfl)) (fun _ _ _ _ _ => (sg_name (pg_name (i := 11) sc_l_web.nd rfl (by first | exact Or.inl rfl | exact Or.inr rfl)) rfl)) (fun _ _ _ _ _ => sp_nil) (fun _ _ _ _ _ => (se_tup (sa_cons (se_v (pv 11) rfl) (sa_cons (se_v (pv 10) rfl) sa_nil))))) sa_nil) (Or.inl rfl)))))
      (sss_cons (SS.mono (ss_for (M := [6]) (Me := []) PassesOwn.never rfl (si_seq (se_fn G_l_shuffled hr (by rfl) (sa_cons (se_p (pv 0) rfl) (sa_cons (se_blt call_len_seq bd_len (by rfl) T.b_len bt_len (sa_cons (se_o (pv 9) rfl) sa_nil)) sa_nil)))) (sg_name (pg_name (i := 8) sc_l_web.nd rfl (by first | exact Or.inl rfl | exact Or.inr rfl)) rfl) (sss_one (ss_if (Me := []) (SW.st (sw_and (st_cmp (op_ltF hr.units0) od_lt (se_fn G_l_next hr (by rfl) (sa_cons (se_p (pv 0) rfl) (sa_cons se_int sa_nil))) (se_v (pv 5) rfl) (nomark _)) (sw_and1 (st_cmp (op_ltF hr.units0) od_lt (se_blt call_len_dT bd_lenT (by rfl) T.b_len bt_len (sa_cons (se_o (pv 6) rfl) sa_nil)) (se_r (pv 2) rfl) (nomark _))))) (sss_one (ss_dputT (Me := []) (le65 (room65 hr)) (pv 6) se_bl (se_ix ix_seq od_ix (se_o (pv 9) rfl) (se_v (pv 8) rfl) (fun _ _ => rfl)) (Or.inl rfl) (hs := by rfl))) sss_nil))))
      (sss_one (ss_ret (Me := []) (se_tup (sa_cons (se_v (pv 4) rfl) (sa_cons (se_bty call_tupleM bd_tup (by rfl) T.b_tuple bt_tuple (sa_cons (se_sortKeysT rfl (pv 6) (Or.inl rfl) (by rfl) T.b_sorted) sa_nil)) sa_nil))))))))))))))
theorem g_l_web {P : Program} {w : World} {K : PySem.W.Frag} {mg : Str → Option Value} {base : Heap} {f : Addr} {fd : FuncData} {C_Apart C_NoTie C_RillError C_TooMany : Addr} (T : TX K mg C_Apart C_NoTie C_RillError C_TooMany) (G_l_next : FnB P w K mg base 1 "_law_next" ["pool", "base"] [.pl, .rd] .fz S_l_next) (G_l_shuffled : FnB P w K mg base 2 "_law_shuffled" ["pool", "many"] [.pl, .rd] .fz S_l_shuffled) (G_l_pair : FnB P w K mg base 1 "_law_pair" ["a", "b"] [.rd, .rd] .fz S_l_pair) (F : Fun K "_law_web" "_law_web" s_l_web f fd) (hm : mg "_law_web" = some (.ref f)) : FnB P w K mg base 3 "_law_web" ["pool", "most", "room", "whole"] [.pl, .rd, .rd, .rd] .fz S_l_web :=
  ⟨f, fd, fn_def [.pl, .rd, .rd, .rd] F sc_l_web rfl rfl rfl (by first | exact .inl rfl | exact .inr rfl) (by intro i; match i with | i => exact noq (by decide) i) (b_l_web T G_l_next G_l_shuffled G_l_pair) m_l_web, hm, F.kp, F.binds fun _ _ _ _ _ _ us hl => match us, hl with | [_, _, _, _], _ => rfl⟩
abbrev s_led_on : Stmt := topS 7
abbrev N_led_on : List Str := ["reach", "begin", "end", "more", "found", "place", "some"]
abbrev k_led_on : List SK := [.r, .r, .r, .v, .o, .v, .v]
theorem sc_led_on : FnScope N_led_on ["reach", "begin", "end"] (defScope s_led_on) := ⟨rfl, rfl, rfl, by decide +kernel, rfl, by decide +kernel, by decide +kernel⟩
theorem b_led_on {P : Program} {w : World} {K : PySem.W.Frag} {mg : Str → Option Value} {base : Heap} {C_Apart C_NoTie C_RillError C_TooMany : Addr} (T : TX K mg C_Apart C_NoTie C_RillError C_TooMany) {f : Addr} (cdv : Value) (A : Around) (outer : List Env) (s : Shared) (H : Hp) (E : XK) (hr : Room 0 (A.deeper (envOfC "led_on" (defScope s_led_on) s.heap.objs.size f cdv))) :
    SSs (cxOf CX0 P w K mg base N_led_on "led_on" (defScope s_led_on) f cdv A outer s H E).nox k_led_on [4] .fz (defBody s_led_on) (wb_led_on) :=
  (sss_cons (ss_set (Me := []) (i := 3) sc_led_on.nd rfl (by first | exact Or.inl rfl | exact Or.inr rfl) (se_bin op_or od_orB (se_ix ix_seq od_ix (se_r (pv 0) rfl) (se_r (pv 2) rfl) (fun _ _ => rfl)) (se_bin op_shl od_shl se_int (se_r (pv 2) rfl))) rfl)
      (sss_cons (ss_setO (Me := []) (i := 4) sc_led_on.nd rfl (by first | exact Or.inl rfl | exact Or.inr rfl) (se_lst sa_nil) rfl)
      (sss_cons (ss_for (Me := []) PassesOwn.never rfl (si_enum (by rfl) T.b_enumerate (se_r (pv 0) rfl)) (sg_tup rfl (sgs_cons (sg_name (pg_name (i := 5) sc_led_on.nd rfl (by first | exact Or.inl rfl | exact Or.inr rfl)) rfl) (sgs_cons (sg_name (pg_name (i := 6) sc_led_on.nd rfl (by first | exact Or.inl rfl | exact Or.inr rfl)) rfl) sgs_nil))) (sss_cons (ss_if (Me := []) (SW.st (sw_or (st_cmp (op_eqD hr.units) od_eq (se_v (pv 5) rfl) (se_r (pv 1) rfl) (nomark _)) (sw_or1 (st_cmp (op_eqD hr.units) od_eq (se_bin op_and od_andB (se_bin op_shr od_shr (se_v (pv 6) rfl) (se_r (pv 1) rfl)) se_int) se_int (nomark _))))) (sss_one (ss_set (Me := []) (i := 6) sc_led_on.nd rfl (by first | exact Or.inl rfl | exact Or.inr rfl) (se_bin op_or od_orB (se_v (pv 6) rfl) (se_v (pv 3) rfl)) rfl)) sss_nil)
      (sss_one (ss_expr (Me := [4]) (se_mut (Ma := []) PySem.F.slot_list_append PySem.F.type_list_append mt_append md_append (pv 4) (sa_cons (se_v (pv 6) rfl) sa_nil) (Or.inl rfl))))))
      (sss_one (ss_ret (Me := []) (se_bty call_tupleM bd_tup (by rfl) T.b_tuple bt_tuple (sa_cons (se_o (pv 4) rfl) sa_nil)))))))
theorem g_led_on {P : Program} {w : World} {K : PySem.W.Frag} {mg : Str → Option Value} {base : Heap} {f : Addr} {fd : FuncData} {C_Apart C_NoTie C_RillError C_TooMany : Addr} (T : TX K mg C_Apart C_NoTie C_RillError C_TooMany) (F : Fun K "led_on" "led_on" s_led_on f fd) (hm : mg "led_on" = some (.ref f)) : FnB P w K mg base 1 "led_on" ["reach", "begin", "end"] [.rd, .rd, .rd] .fz S_led_on :=
  ⟨f, fd, fn_def [.rd, .rd, .rd] F sc_led_on rfl rfl rfl (by first | exact .inl rfl | exact .inr rfl) (by intro i; match i with | i => exact noq (by decide) i) (b_led_on T) m_led_on, hm, F.kp, F.binds fun _ _ _ _ _ _ us hl => match us, hl with | [_, _, _], _ => rfl⟩
abbrev s_grown : Stmt := topS 8
abbrev N_grown : List Str := ["begun", "a", "b", "found", "pointing", "reach", "way", "begin", "end"]
abbrev k_grown : List SK := [.r, .v, .v, .o, .v, .v, .v, .v, .v]
theorem sc_grown : FnScope N_grown ["begun", "a", "b"] (defScope s_grown) := ⟨rfl, rfl, rfl, by decide +kernel, rfl, by decide +kernel, by decide +kernel⟩
theorem b_grown {P : Program} {w : World} {K : PySem.W.Frag} {mg : Str → Option Value} {base : Heap} {C_Apart C_NoTie C_RillError C_TooMany : Addr} (T : TX K mg C_Apart C_NoTie C_RillError C_TooMany) (G_led_on : FnB P w K mg base 1 "led_on" ["reach", "begin", "end"] [.rd, .rd, .rd] .fz S_led_on) {f : Addr} (cdv : Value) (A : Around) (outer : List Env) (s : Shared) (H : Hp) (E : XK) (hr : Room 1 (A.deeper (envOfC "grown" (defScope s_grown) s.heap.objs.size f cdv))) :
    SSs (cxOf CX0 P w K mg base N_grown "grown" (defScope s_grown) f cdv A outer s H E).nox k_grown [3] .fz (defBody s_grown) (wb_grown S_led_on) :=
  (sss_cons (ss_setO (Me := []) (i := 3) sc_grown.nd rfl (by first | exact Or.inl rfl | exact Or.inr rfl) (se_lst sa_nil) rfl)
      (sss_cons (ss_for (Me := []) PassesOwn.never rfl (si_seq (se_r (pv 0) rfl)) (sg_tup rfl (sgs_cons (sg_name (pg_name (i := 4) sc_grown.nd rfl (by first | exact Or.inl rfl | exact Or.inr rfl)) rfl) (sgs_cons (sg_name (pg_name (i := 5) sc_grown.nd rfl (by first | exact Or.inl rfl | exact Or.inr rfl)) rfl) sgs_nil))) (sss_one (ss_for (Me := []) PassesOwn.never rfl (si_seq (se_tup (sa_cons (se_tup (sa_cons se_int (sa_cons (se_v (pv 2) rfl) (sa_cons (se_v (pv 1) rfl) sa_nil)))) (sa_cons (se_tup (sa_cons se_int (sa_cons (se_v (pv 1) rfl) (sa_cons (se_v (pv 2) rfl) sa_nil)))) sa_nil)))) (sg_tup rfl (sgs_cons (sg_name (pg_name (i := 6) sc_grown.nd rfl (by first | exact Or.inl rfl | exact Or.inr rfl)) rfl) (sgs_cons (sg_name (pg_name (i := 7) sc_grown.nd rfl (by first | exact Or.inl rfl | exact Or.inr rfl)) rfl) (sgs_cons (sg_name (pg_name (i := 8) sc_grown.nd rfl (by first | exact Or.inl rfl | exact Or.inr rfl)) rfl) sgs_nil)))) (sss_one (ss_if (Me := []) (st_cmp (op_eqD hr.units) od_eq (se_bin op_and od_andB (se_bin op_shr od_shr (se_ix ix_seq od_ix (se_v (pv 5) rfl) (se_v (pv 8) rfl) (fun _ _ => rfl)) (se_v (pv 7) rfl)) se_int) se_int (nomark _)) (sss_one (ss_expr (Me := [3]) (se_mut (Ma := []) PySem.F.slot_list_append PySem.F.type_list_append mt_append md_append (pv 3) (sa_cons (se_tup (sa_cons (se_bin op_addF od_add (se_v (pv 4) rfl) (se_tup (sa_cons (se_v (pv 6) rfl) sa_nil))) (sa_cons (se_fn G_led_on hr (by rfl) (sa_cons (se_v (pv 5) rfl) (sa_cons (se_v (pv 7) rfl) (sa_cons (se_v (pv 8) rfl) sa_nil)))) sa_nil))) sa_nil) (Or.inl rfl)))) sss_nil)))))
      (sss_one (ss_retof (Me := []) (se_o (pv 3) rfl) rfl))))
theorem g_grown {P : Program} {w : World} {K : PySem.W.Frag} {mg : Str → Option Value} {base : Heap} {f : Addr} {fd : FuncData} {C_Apart C_NoTie C_RillError C_TooMany : Addr} (T : TX K mg C_Apart C_NoTie C_RillError C_TooMany) (G_led_on : FnB P w K mg base 1 "led_on" ["reach", "begin", "end"] [.rd, .rd, .rd] .fz S_led_on) (F : Fun K "grown" "grown" s_grown f fd) (hm : mg "grown" = some (.ref f)) : FnB P w K mg base 2 "grown" ["begun", "a", "b"] [.rd, .fz, .fz] .fz S_grown :=
  ⟨f, fd, fn_def [.rd, .fz, .fz] F sc_grown rfl rfl rfl (by first | exact .inl rfl | exact .inr rfl) (by intro i; match i with | i => exact noq (by decide) i) (b_grown T G_led_on) m_grown, hm, F.kp, F.binds fun _ _ _ _ _ _ us hl => match us, hl with | [_, _, _], _ => rfl⟩
abbrev s_all_falls : Stmt := topS 9
abbrev N_all_falls : List Str := ["web", "found", "a", "b", "pointing", "reach"]
abbrev k_all_falls : List SK := [.r, .v, .v, .v, .v, .v]
theorem sc_all_falls : FnScope N_all_falls ["web"] (defScope s_all_falls) := ⟨rfl, rfl, rfl, by decide +kernel, rfl, by decide +kernel, by decide +kernel⟩
theorem b_all_falls {P : Program} {w : World} {K : PySem.W.Frag} {mg : Str → Option Value} {base : Heap} {C_Apart C_NoTie C_RillError C_TooMany : Addr} (T : TX K mg C_Apart C_NoTie C_RillError C_TooMany) (G_grown : FnB P w K mg base 2 "grown" ["begun", "a", "b"] [.rd, .fz, .fz] .fz S_grown) {f : Addr} (cdv : Value) (A : Around) (outer : List Env) (s : Shared) (H : Hp) (E : XK) (hr : Room 2 (A.deeper (envOfC "all_falls" (defScope s_all_falls) s.heap.objs.size f cdv))) :
    SSsX (cxOf (L2.CX P w) P w K mg base N_all_falls "all_falls" (defScope s_all_falls) f cdv A outer s H E) (fun cls d _ H2 => E cls d H2) k_all_falls [] .fz (defBody s_all_falls) (wb_all_falls S_grown) :=
  (sssx_cons (SSX.thru (ss_set (Me := []) (i := 1) sc_all_falls.nd rfl (by first | exact Or.inl rfl | exact Or.inr rfl) (SE.nf (se_lst (sa_cons (se_tup (sa_cons (se_tup sa_nil) (sa_cons (se_bin op_repM od_repT (se_tup (sa_cons se_int sa_nil)) (se_ix ix_seq od_ix (se_r (pv 0) rfl) se_int (fun _ _ => rfl))) sa_nil))) sa_nil))) rfl))
      (sssx_cons (ssx_for (Me := []) (passes_of rfl) rfl (si_seq (se_ix ix_seq od_ix (se_r (pv 0) rfl) se_int (fun _ _ => rfl))) (sg_tup rfl (sgs_cons (sg_name (pg_name (i := 2) sc_all_falls.nd rfl (by first | exact Or.inl rfl | exact Or.inr rfl)) rfl) (sgs_cons (sg_name (pg_name (i := 3) sc_all_falls.nd rfl (by first | exact Or.inl rfl | exact Or.inr rfl)) rfl) sgs_nil))) (sssx_cons (SSX.thru (ss_set (Me := []) (i := 1) sc_all_falls.nd rfl (by first | exact Or.inl rfl | exact Or.inr rfl) (se_fn G_grown hr (by rfl) (sa_cons (se_v (pv 1) rfl) (sa_cons (se_v (pv 2) rfl) (sa_cons (se_v (pv 3) rfl) sa_nil)))) rfl))
      (sssx_one (ssx_if (Me := []) (st_cmp op_gt od_gt (se_blt call_len_seq bd_len (by rfl) T.b_len bt_len (sa_cons (se_v (pv 1) rfl) sa_nil)) (se_gint (by rfl) T.c_MOST_FALLS.choose_spec) (nomark _)) (sssx_one (ssx_raise rfl (takes_of rfl rfl rfl rfl) (pmk_own PySem.F.excBase_ValueError T.x_TooMany T.g_TooMany T.k_TooMany (raises_own T.bs_TooMany T.ty_TooMany) rfl) T.g_TooMany)) sssx_nil))))
      (sssx_one (SSX.thru (ss_ret (Me := []) (SE.nf (se_blt cr_sortedTs bd_sortedTs (by rfl) T.b_sorted bt_sorted (sa_cons (se_lc rfl sc_all_falls.nd (si_seq (se_v (pv 1) rfl)) (own := [("pointing", 4), ("reach", 5)]) (blkOk_by (by kernel_rfl)) (fun _ _ _ _ _ => (sg_tup rfl (sgs_cons (sg_name (pg_name (i := 4) sc_all_falls.nd rfl (by first | exact Or.inl rfl | exact Or.inr rfl)) rfl) (sgs_cons (sg_name (pg_name (i := 5) sc_all_falls.nd rfl (by first | exact Or.inl rfl | exact Or.inr rfl)) rfl) sgs_nil)))) (fun _ _ _ _ _ => sp_nil) (fun _ _ _ _ _ => (se_v (pv 4) rfl))) sa_nil))))))))
theorem g_all_falls {P : Program} {w : World} {K : PySem.W.Frag} {mg : Str → Option Value} {base : Heap} {f : Addr} {fd : FuncData} {C_Apart C_NoTie C_RillError C_TooMany : Addr} (T : TX K mg C_Apart C_NoTie C_RillError C_TooMany) (G_grown : FnB P w K mg base 2 "grown" ["begun", "a", "b"] [.rd, .fz, .fz] .fz S_grown) (F : Fun K "all_falls" "all_falls" s_all_falls f fd) (hm : mg "all_falls" = some (.ref f)) : FnBX P w K mg base 3 "all_falls" ["web"] [.rd] .fz S_all_falls :=
  ⟨f, fd, fn_defX [.rd] F sc_all_falls rfl rfl rfl (by first | exact .inl rfl | exact .inr rfl) (by intro i; match i with | i => exact noq (by decide) i) (b_all_falls T G_grown) m_all_falls, hm, F.kp, F.binds fun _ _ _ _ _ _ us hl => match us, hl with | [_], _ => rfl⟩
abbrev s_l_told_falls : Stmt := topS 21
abbrev N_l_told_falls : List Str := ["web", "found", "e"]
abbrev k_l_told_falls : List SK := [.r, .v, .v]
theorem sc_l_told_falls : FnScope N_l_told_falls ["web"] (defScope s_l_told_falls) := ⟨rfl, rfl, rfl, by decide +kernel, rfl, by decide +kernel, by decide +kernel⟩
theorem b_l_told_falls {P : Program} {w : World} {K : PySem.W.Frag} {mg : Str → Option Value} {base : Heap} {C_Apart C_NoTie C_RillError C_TooMany : Addr} (T : TX K mg C_Apart C_NoTie C_RillError C_TooMany) (G_all_falls : FnBX P w K mg base 3 "all_falls" ["web"] [.rd] .fz S_all_falls) {f : Addr} (cdv : Value) (A : Around) (outer : List Env) (s : Shared) (H : Hp) (E : XK) (hr : Room 3 (A.deeper (envOfC "_law_told_falls" (defScope s_l_told_falls) s.heap.objs.size f cdv))) :
    SSs (cxOf CX0 P w K mg base N_l_told_falls "_law_told_falls" (defScope s_l_told_falls) f cdv A outer s H E).nox k_l_told_falls [] .fz (defBody s_l_told_falls) (wb_l_told_falls S_all_falls) :=
  (sss_cons (ss_set (Me := []) (i := 1) sc_l_told_falls.nd rfl (by first | exact Or.inl rfl | exact Or.inr rfl) se_str rfl)
      (sss_cons (ss_tryX (i := 2) [("TooMany", C_TooMany, (wIf (tAnd (tVal (wIsE 2 true)) (tAnd (tVal (wIsE 2 true)) (tNot (tVal (wIsE 2 false))))) (wAsg 1 (wC (.str "many"))) wNil))] rfl rfl sc_l_told_falls.nd rfl rfl ⟨rfl, by decide, .inl T.g_RillError⟩ rfl (by decide) ⟨⟨T.g_TooMany, PySem.W.exm_ref T.bs_RillError T.hd_RillError T.ty_RillError T.su_TooMany_RillError, fun a oe pn hz hf => (sss_one (ss_if (Me := []) (SW.st (sw_and (st_val (se_isE true ⟨T.ga_TooMany, T.gg_TooMany, T.bs_TooMany, T.hd_TooMany, T.gc_TooMany, T.sp0, T.tk0, T.mo_TooMany⟩ hz hf (pv 2) (by rfl) T.b_isinstance (CA.own (by rfl) T.g_TooMany rfl) (kit_own T.is_TooMany T.ty_TooMany T.su_TooMany_TooMany T.sf_TooMany) rfl)) (sw_and (st_val (se_isE true ⟨T.ga_TooMany, T.gg_TooMany, T.bs_TooMany, T.hd_TooMany, T.gc_TooMany, T.sp0, T.tk0, T.mo_TooMany⟩ hz hf (pv 2) (by rfl) T.b_isinstance (CA.blt (by rfl) T.b_ValueError (by decide +kernel) (by decide) rfl) (kit_blt (by decide) T.sv_TooMany) rfl)) (sw_and1 (st_not (st_val (se_isET false ⟨T.ga_TooMany, T.gg_TooMany, T.bs_TooMany, T.hd_TooMany, T.gc_TooMany, T.sp0, T.tk0, T.mo_TooMany⟩ hz hf (pv 2) (by rfl) T.b_isinstance (CAs.cons (CA.own (by rfl) T.g_Apart rfl) (CAs.cons (CA.own (by rfl) T.g_NoTie rfl) CAs.nil rfl) rfl) (kit_f (kit_own T.is_Apart T.ty_Apart T.su_TooMany_Apart T.sf_TooMany) (kit_f (kit_own T.is_NoTie T.ty_NoTie T.su_TooMany_NoTie T.sf_TooMany) kit_nil)) rfl))))))) (sss_one (ss_set (Me := []) (i := 1) sc_l_told_falls.nd rfl (by first | exact Or.inl rfl | exact Or.inr rfl) se_str rfl)) sss_nil))⟩, trivial⟩ (fun W pn xe tk => (sssx_one (ssx_set (Me := []) (i := 1) sc_l_told_falls.nd rfl (by first | exact Or.inl rfl | exact Or.inr rfl) (sex_fn G_all_falls tk hr (by rfl) (sa_cons (se_r (pv 0) rfl) sa_nil)) rfl))))
      (sss_one (ss_ret (Me := []) (se_v (pv 1) rfl)))))
theorem g_l_told_falls {P : Program} {w : World} {K : PySem.W.Frag} {mg : Str → Option Value} {base : Heap} {f : Addr} {fd : FuncData} {C_Apart C_NoTie C_RillError C_TooMany : Addr} (T : TX K mg C_Apart C_NoTie C_RillError C_TooMany) (G_all_falls : FnBX P w K mg base 3 "all_falls" ["web"] [.rd] .fz S_all_falls) (F : Fun K "_law_told_falls" "_law_told_falls" s_l_told_falls f fd) (hm : mg "_law_told_falls" = some (.ref f)) : FnB P w K mg base 4 "_law_told_falls" ["web"] [.rd] .fz S_l_told_falls :=
  ⟨f, fd, fn_def [.rd] F sc_l_told_falls rfl rfl rfl (by first | exact .inl rfl | exact .inr rfl) (by intro i; match i with | i => exact noq (by decide) i) (b_l_told_falls T G_all_falls) m_l_told_falls, hm, F.kp, F.binds fun _ _ _ _ _ _ us hl => match us, hl with | [_], _ => rfl⟩
abbrev s_l_lowest : Stmt := topS 20
abbrev N_l_lowest : List Str := ["some", "at"]
abbrev k_l_lowest : List SK := [.v, .v]
theorem sc_l_lowest : FnScope N_l_lowest ["some"] (defScope s_l_lowest) := ⟨rfl, rfl, rfl, by decide +kernel, rfl, by decide +kernel, by decide +kernel⟩
theorem b_l_lowest {P : Program} {w : World} {K : PySem.W.Frag} {mg : Str → Option Value} {base : Heap} {C_Apart C_NoTie C_RillError C_TooMany : Addr} (T : TX K mg C_Apart C_NoTie C_RillError C_TooMany) {f : Addr} (cdv : Value) (A : Around) (outer : List Env) (s : Shared) (H : Hp) (E : XK) (hr : Room 0 (A.deeper (envOfC "_law_lowest" (defScope s_l_lowest) s.heap.objs.size f cdv))) :
    SSs (cxOf CX0 P w K mg base N_l_lowest "_law_lowest" (defScope s_l_lowest) f cdv A outer s H E).nox k_l_lowest [] .fz (defBody s_l_lowest) (wb_l_lowest) :=
  (sss_cons (ss_set (Me := []) (i := 1) sc_l_lowest.nd rfl (by first | exact Or.inl rfl | exact Or.inr rfl) se_int rfl)
      (sss_cons (ss_while (Me := []) PassesOwn.never (st_cmp (op_eqD hr.units) od_eq (se_bin op_mod od_mod (se_v (pv 0) rfl) se_int) se_int (nomark _)) (sss_cons (ss_set (Me := []) (i := 0) sc_l_lowest.nd rfl (by first | exact Or.inl rfl | exact Or.inr rfl) (se_bin op_fdiv od_fdiv (se_v (pv 0) rfl) se_int) rfl)
      (sss_one (ss_set (Me := []) (i := 1) sc_l_lowest.nd rfl (by first | exact Or.inl rfl | exact Or.inr rfl) (se_bin op_addF od_add (se_v (pv 1) rfl) se_int) rfl))))
      (sss_one (ss_ret (Me := []) (se_v (pv 1) rfl)))))
theorem g_l_lowest {P : Program} {w : World} {K : PySem.W.Frag} {mg : Str → Option Value} {base : Heap} {f : Addr} {fd : FuncData} {C_Apart C_NoTie C_RillError C_TooMany : Addr} (T : TX K mg C_Apart C_NoTie C_RillError C_TooMany) (F : Fun K "_law_lowest" "_law_lowest" s_l_lowest f fd) (hm : mg "_law_lowest" = some (.ref f)) : FnB P w K mg base 1 "_law_lowest" ["some"] [.fz] .fz S_l_lowest :=
  ⟨f, fd, fn_def [.fz] F sc_l_lowest rfl rfl rfl (by first | exact .inl rfl | exact .inr rfl) (by intro i; match i with | i => exact noq (by decide) i) (b_l_lowest T) m_l_lowest, hm, F.kp, F.binds fun _ _ _ _ _ _ us hl => match us, hl with | [_], _ => rfl⟩
abbrev s_l_counts : Stmt := topS 19
abbrev N_l_counts : List Str := ["web", "near_bits", "a", "b", "apart", "signs", "some", "low", "rest", "found", "part"]
abbrev k_l_counts : List SK := [.r, .o, .v, .v, .f, .v, .v, .v, .v, .f, .v]
theorem sc_l_counts : FnScope N_l_counts ["web"] (defScope s_l_counts) := ⟨rfl, rfl, rfl, by decide +kernel, rfl, by decide +kernel, by decide +kernel⟩
theorem b_l_counts {P : Program} {w : World} {K : PySem.W.Frag} {mg : Str → Option Value} {base : Heap} {C_Apart C_NoTie C_RillError C_TooMany : Addr} (T : TX K mg C_Apart C_NoTie C_RillError C_TooMany) (G_l_lowest : FnB P w K mg base 1 "_law_lowest" ["some"] [.fz] .fz S_l_lowest) {f : Addr} (cdv : Value) (A : Around) (outer : List Env) (s : Shared) (H : Hp) (E : XK) (hr : Room 1 (A.deeper (envOfC "_law_counts" (defScope s_l_counts) s.heap.objs.size f cdv))) :
    SSs (cxOf CX0 P w K mg base N_l_counts "_law_counts" (defScope s_l_counts) f cdv A outer s H E).nox k_l_counts [1, 4, 9] .fz (defBody s_l_counts) (wb_l_counts S_l_lowest) :=
  (sss_cons (ss_setO (Me := []) (i := 1) sc_l_counts.nd rfl (by first | exact Or.inl rfl | exact Or.inr rfl) (se_bin op_repR od_rep (se_lst (sa_cons se_int sa_nil)) (se_ix ix_seq od_ix (se_r (pv 0) rfl) se_int (fun _ _ => rfl))) rfl)
      (sss_cons (ss_for (Me := []) PassesOwn.never rfl (si_seq (se_ix ix_seq od_ix (se_r (pv 0) rfl) se_int (fun _ _ => rfl))) (sg_tup rfl (sgs_cons (sg_name (pg_name (i := 2) sc_l_counts.nd rfl (by first | exact Or.inl rfl | exact Or.inr rfl)) rfl) (sgs_cons (sg_name (pg_name (i := 3) sc_l_counts.nd rfl (by first | exact Or.inl rfl | exact Or.inr rfl)) rfl) sgs_nil))) (sss_cons (ss_setix (Me := []) (pv 1) (se_bin op_addF od_add (se_ix ix_seq od_ix (se_o (pv 1) rfl) (se_v (pv 2) rfl) (fun _ _ => rfl)) (se_bin op_shl od_shl se_int (se_v (pv 3) rfl))) (se_v (pv 2) rfl) (Or.inl rfl))
      (sss_one (ss_setix (Me := []) (pv 1) (se_bin op_addF od_add (se_ix ix_seq od_ix (se_o (pv 1) rfl) (se_v (pv 3) rfl) (fun _ _ => rfl)) (se_bin op_shl od_shl se_int (se_v (pv 2) rfl))) (se_v (pv 3) rfl) (Or.inl rfl)))))
      (sss_cons (ss_setF (Me := []) (i := 4) sc_l_counts.nd rfl (by first | exact Or.inl rfl | exact Or.inr rfl) (se_disp1 se_int se_int) rfl)
      (sss_cons (ss_set (Me := []) (i := 5) sc_l_counts.nd rfl (by first | exact Or.inl rfl | exact Or.inr rfl) (SE.nf (se_bin op_repR od_rep (se_lst (sa_cons se_int sa_nil)) (se_bin op_shl od_shl se_int (se_ix ix_seq od_ix (se_r (pv 0) rfl) se_int (fun _ _ => rfl))))) rfl)
      (sss_cons (ss_asO 4 rfl (ss_for (Me := []) PassesOwn.never rfl (si_rg2 (by rfl) T.b_range se_int (se_bin op_shl od_shl se_int (se_ix ix_seq od_ix (se_r (pv 0) rfl) se_int (fun _ _ => rfl)))) (sg_name (pg_name (i := 6) sc_l_counts.nd rfl (by first | exact Or.inl rfl | exact Or.inr rfl)) rfl) (sss_cons (ss_set (Me := []) (i := 7) sc_l_counts.nd rfl (by first | exact Or.inl rfl | exact Or.inr rfl) (se_fn G_l_lowest hr (by rfl) (sa_cons (se_v (pv 6) rfl) sa_nil)) rfl)
      (sss_cons (ss_set (Me := []) (i := 8) sc_l_counts.nd rfl (by first | exact Or.inl rfl | exact Or.inr rfl) (se_bin op_sub od_sub (se_v (pv 6) rfl) (se_bin op_shl od_shl se_int (se_v (pv 7) rfl))) rfl)
      (sss_one (ss_if (Me := []) (SW.st (sw_and (st_din (le65 (room65 hr)) (se_v (pv 8) rfl) (se_o (pv 4) rfl) (by with_unfolding_all rfl)) (sw_and1 (st_cmp (op_eqD hr.units) od_eq (se_bin op_and od_andB (se_ix ix_seq od_ix (se_o (pv 1) rfl) (se_v (pv 7) rfl) (fun _ _ => rfl)) (se_v (pv 8) rfl)) se_int (nomark _))))) (sss_one (ss_dput (Me := []) (le65 (room65 hr)) (pv 4) (se_bin op_sub od_sub se_int (se_dget (le65 (room65 hr)) (se_o (pv 4) rfl) (se_v (pv 8) rfl) (fun _ _ => rfl))) (se_v (pv 6) rfl) (Or.inl rfl) (hs := by rfl))) sss_nil))))))
      (sss_cons (ss_setF (Me := []) (i := 9) sc_l_counts.nd rfl (by first | exact Or.inl rfl | exact Or.inr rfl) (se_bin op_catR od_addL (se_lst (sa_cons se_int sa_nil)) (se_sl sl_F sd_F (se_v (pv 5) rfl) (so_s se_int) so_n)) rfl)
      (sss_cons (ss_asO 9 rfl (ss_asO 4 rfl (ss_for (Me := []) PassesOwn.never rfl (si_rg2 (by rfl) T.b_range se_int (se_bin op_shl od_shl se_int (se_ix ix_seq od_ix (se_r (pv 0) rfl) se_int (fun _ _ => rfl)))) (sg_name (pg_name (i := 6) sc_l_counts.nd rfl (by first | exact Or.inl rfl | exact Or.inr rfl)) rfl) (sss_cons (ss_set (Me := []) (i := 10) sc_l_counts.nd rfl (by first | exact Or.inl rfl | exact Or.inr rfl) (se_v (pv 6) rfl) rfl)
      (sss_one (ss_while (Me := []) PassesOwn.never (st_cmp op_gt od_gt (se_v (pv 10) rfl) se_int (nomark _)) (sss_cons (ss_setix (Me := []) (pv 9) (se_bin op_sub od_sub (se_ix ix_seq od_ix (se_o (pv 9) rfl) (se_v (pv 6) rfl) (fun _ _ => rfl)) (se_bin op_mul od_mulI (se_dget2 (le65 (room65 hr)) (se_o (pv 4) rfl) (se_v (pv 10) rfl) se_int ⟨rfl, rfl, rfl, rfl⟩) (se_ix ix_seq od_ix (se_o (pv 9) rfl) (se_bin op_sub od_sub (se_v (pv 6) rfl) (se_v (pv 10) rfl)) (fun _ _ => rfl)))) (se_v (pv 6) rfl) (Or.inl rfl))
      (sss_one (ss_set (Me := []) (i := 10) sc_l_counts.nd rfl (by first | exact Or.inl rfl | exact Or.inr rfl) (se_bin op_and od_andB (se_bin op_sub od_sub (se_v (pv 10) rfl) se_int) (se_v (pv 6) rfl)) rfl)))))))))
      (sss_one (ss_frz 4 rfl (ss_frz 9 rfl (ss_asV 9 rfl (ss_asV 4 rfl (ss_ret (Me := []) (se_tup (sa_cons (se_v (pv 4) rfl) (sa_cons (se_v (pv 9) rfl) sa_nil))))))))))))))))
theorem g_l_counts {P : Program} {w : World} {K : PySem.W.Frag} {mg : Str → Option Value} {base : Heap} {f : Addr} {fd : FuncData} {C_Apart C_NoTie C_RillError C_TooMany : Addr} (T : TX K mg C_Apart C_NoTie C_RillError C_TooMany) (G_l_lowest : FnB P w K mg base 1 "_law_lowest" ["some"] [.fz] .fz S_l_lowest) (F : Fun K "_law_counts" "_law_counts" s_l_counts f fd) (hm : mg "_law_counts" = some (.ref f)) : FnB P w K mg base 2 "_law_counts" ["web"] [.rd] .fz S_l_counts :=
  ⟨f, fd, fn_def [.rd] F sc_l_counts rfl rfl rfl (by first | exact .inl rfl | exact .inr rfl) (by intro i; match i with | i => exact noq (by decide) i) (b_l_counts T G_l_lowest) m_l_counts, hm, F.kp, F.binds fun _ _ _ _ _ _ us hl => match us, hl with | [_], _ => rfl⟩
abbrev s_l_flows : Stmt := topS 17
abbrev N_l_flows : List Str := ["web", "pointing", "found", "k", "a", "b"]
abbrev k_l_flows : List SK := [.r, .r, .o, .v, .v, .v]
theorem sc_l_flows : FnScope N_l_flows ["web", "pointing"] (defScope s_l_flows) := ⟨rfl, rfl, rfl, by decide +kernel, rfl, by decide +kernel, by decide +kernel⟩
theorem b_l_flows {P : Program} {w : World} {K : PySem.W.Frag} {mg : Str → Option Value} {base : Heap} {C_Apart C_NoTie C_RillError C_TooMany : Addr} (T : TX K mg C_Apart C_NoTie C_RillError C_TooMany) {f : Addr} (cdv : Value) (A : Around) (outer : List Env) (s : Shared) (H : Hp) (E : XK) (hr : Room 0 (A.deeper (envOfC "_law_flows" (defScope s_l_flows) s.heap.objs.size f cdv))) :
    SSs (cxOf CX0 P w K mg base N_l_flows "_law_flows" (defScope s_l_flows) f cdv A outer s H E).nox k_l_flows [2] .fz (defBody s_l_flows) (wb_l_flows) :=
  (sss_cons (ss_setO (Me := []) (i := 2) sc_l_flows.nd rfl (by first | exact Or.inl rfl | exact Or.inr rfl) (se_lst sa_nil) rfl)
      (sss_cons (ss_for (Me := []) PassesOwn.never rfl (si_enum (by rfl) T.b_enumerate (se_ix ix_seq od_ix (se_r (pv 0) rfl) se_int (fun _ _ => rfl))) (sg_tup rfl (sgs_cons (sg_name (pg_name (i := 3) sc_l_flows.nd rfl (by first | exact Or.inl rfl | exact Or.inr rfl)) rfl) (sgs_cons (sg_tup rfl (sgs_cons (sg_name (pg_name (i := 4) sc_l_flows.nd rfl (by first | exact Or.inl rfl | exact Or.inr rfl)) rfl) (sgs_cons (sg_name (pg_name (i := 5) sc_l_flows.nd rfl (by first | exact Or.inl rfl | exact Or.inr rfl)) rfl) sgs_nil))) sgs_nil))) (sss_one (ss_expr (Me := [2]) (se_mut (Ma := []) PySem.F.slot_list_append PySem.F.type_list_append mt_append md_append (pv 2) (sa_cons (se_ix ix_seq od_ix (se_lst (sa_cons (se_tup (sa_cons (se_v (pv 5) rfl) (sa_cons (se_v (pv 4) rfl) sa_nil))) (sa_cons (se_tup (sa_cons (se_v (pv 4) rfl) (sa_cons (se_v (pv 5) rfl) sa_nil))) sa_nil))) (se_ix ix_seq od_ix (se_r (pv 1) rfl) (se_v (pv 3) rfl) (fun _ _ => rfl)) (fun _ _ => rfl)) sa_nil) (Or.inl rfl)))))
      (sss_one (ss_retof (Me := []) (se_o (pv 2) rfl) rfl))))
theorem g_l_flows {P : Program} {w : World} {K : PySem.W.Frag} {mg : Str → Option Value} {base : Heap} {f : Addr} {fd : FuncData} {C_Apart C_NoTie C_RillError C_TooMany : Addr} (T : TX K mg C_Apart C_NoTie C_RillError C_TooMany) (F : Fun K "_law_flows" "_law_flows" s_l_flows f fd) (hm : mg "_law_flows" = some (.ref f)) : FnB P w K mg base 1 "_law_flows" ["web", "pointing"] [.rd, .rd] .fz S_l_flows :=
  ⟨f, fd, fn_def [.rd, .rd] F sc_l_flows rfl rfl rfl (by first | exact .inl rfl | exact .inr rfl) (by intro i; match i with | i => exact noq (by decide) i) (b_l_flows T) m_l_flows, hm, F.kp, F.binds fun _ _ _ _ _ _ us hl => match us, hl with | [_, _], _ => rfl⟩
abbrev s_l_is_fall : Stmt := topS 18
abbrev N_l_is_fall : List Str := ["web", "pointing", "flows", "left", "turn", "ends", "begin", "end", "place"]
abbrev k_l_is_fall : List SK := [.r, .r, .v, .v, .v, .v, .v, .v, .v]
theorem sc_l_is_fall : FnScope N_l_is_fall ["web", "pointing"] (defScope s_l_is_fall) := ⟨rfl, rfl, rfl, by decide +kernel, rfl, by decide +kernel, by decide +kernel⟩
theorem b_l_is_fall {P : Program} {w : World} {K : PySem.W.Frag} {mg : Str → Option Value} {base : Heap} {C_Apart C_NoTie C_RillError C_TooMany : Addr} (T : TX K mg C_Apart C_NoTie C_RillError C_TooMany) (G_l_flows : FnB P w K mg base 1 "_law_flows" ["web", "pointing"] [.rd, .rd] .fz S_l_flows) {f : Addr} (cdv : Value) (A : Around) (outer : List Env) (s : Shared) (H : Hp) (E : XK) (hr : Room 1 (A.deeper (envOfC "_law_is_fall" (defScope s_l_is_fall) s.heap.objs.size f cdv))) :
    SSs (cxOf CX0 P w K mg base N_l_is_fall "_law_is_fall" (defScope s_l_is_fall) f cdv A outer s H E).nox k_l_is_fall [] .fz (defBody s_l_is_fall) (wb_l_is_fall S_l_flows) :=
  (sss_cons (ss_set (Me := []) (i := 2) sc_l_is_fall.nd rfl (by first | exact Or.inl rfl | exact Or.inr rfl) (se_fn G_l_flows hr (by rfl) (sa_cons (se_r (pv 0) rfl) (sa_cons (se_r (pv 1) rfl) sa_nil))) rfl)
      (sss_cons (ss_set (Me := []) (i := 3) sc_l_is_fall.nd rfl (by first | exact Or.inl rfl | exact Or.inr rfl) (SE.nf (se_lstRg1 (by rfl) T.b_list (by rfl) T.b_range (se_ix ix_seq od_ix (se_r (pv 0) rfl) se_int (fun _ _ => rfl)))) rfl)
      (sss_cons (ss_for (Me := []) PassesOwn.never rfl (si_rg1 (by rfl) T.b_range (se_ix ix_seq od_ix (se_r (pv 0) rfl) se_int (fun _ _ => rfl))) (sg_name (pg_name (i := 4) sc_l_is_fall.nd rfl (by first | exact Or.inl rfl | exact Or.inr rfl)) rfl) (sss_cons (ss_set (Me := []) (i := 5) sc_l_is_fall.nd rfl (by first | exact Or.inl rfl | exact Or.inr rfl) (SE.nf (se_lc rfl sc_l_is_fall.nd (si_seq (se_v (pv 2) rfl)) (own := [("begin", 6), ("end", 7)]) (blkOk_by (by kernel_rfl)) (fun _ _ _ _ _ => (sg_tup rfl (sgs_cons (sg_name (pg_name (i := 6) sc_l_is_fall.nd rfl (by first | exact Or.inl rfl | exact Or.inr rfl)) rfl) (sgs_cons (sg_name (pg_name (i := 7) sc_l_is_fall.nd rfl (by first | exact Or.inl rfl | exact Or.inr rfl)) rfl) sgs_nil)))) (fun _ _ _ _ _ => (sp_one (st_cmp (op_inF (room65 hr)) od_in (se_v (pv 6) rfl) (se_v (pv 3) rfl) (by with_unfolding_all rfl)))) (fun _ _ _ _ _ => (se_v (pv 7) rfl)))) rfl)
      (sss_one (ss_set (Me := []) (i := 3) sc_l_is_fall.nd rfl (by first | exact Or.inl rfl | exact Or.inr rfl) (SE.nf (se_lc rfl sc_l_is_fall.nd (si_seq (se_v (pv 3) rfl)) (own := [("place", 8)]) (blkOk_by (by kernel_rfl)) (fun _ _ _ _ _ => (sg_name (pg_name (i := 8) sc_l_is_fall.nd rfl (by first | exact Or.inl rfl | exact Or.inr rfl)) rfl)) (fun _ _ _ _ _ => (sp_one (st_cmp (op_inF (room65 hr)) od_in (se_v (pv 8) rfl) (se_v (pv 5) rfl) (by with_unfolding_all rfl)))) (fun _ _ _ _ _ => (se_v (pv 8) rfl)))) rfl))))
      (sss_one (ss_ret (Me := []) (se_cmp (op_eqD hr.units) od_eq (se_v (pv 3) rfl) (se_lst sa_nil) (nomark _)))))))
theorem g_l_is_fall {P : Program} {w : World} {K : PySem.W.Frag} {mg : Str → Option Value} {base : Heap} {f : Addr} {fd : FuncData} {C_Apart C_NoTie C_RillError C_TooMany : Addr} (T : TX K mg C_Apart C_NoTie C_RillError C_TooMany) (G_l_flows : FnB P w K mg base 1 "_law_flows" ["web", "pointing"] [.rd, .rd] .fz S_l_flows) (F : Fun K "_law_is_fall" "_law_is_fall" s_l_is_fall f fd) (hm : mg "_law_is_fall" = some (.ref f)) : FnB P w K mg base 2 "_law_is_fall" ["web", "pointing"] [.rd, .rd] .fz S_l_is_fall :=
  ⟨f, fd, fn_def [.rd, .rd] F sc_l_is_fall rfl rfl rfl (by first | exact .inl rfl | exact .inr rfl) (by intro i; match i with | i => exact noq (by decide) i) (b_l_is_fall T G_l_flows) m_l_is_fall, hm, F.kp, F.binds fun _ _ _ _ _ _ us hl => match us, hl with | [_, _], _ => rfl⟩
abbrev s_l_ints : Stmt := topS 13
abbrev N_l_ints : List Str := ["some", "number"]
abbrev k_l_ints : List SK := [.r, .v]
theorem sc_l_ints : FnScope N_l_ints ["some"] (defScope s_l_ints) := ⟨rfl, rfl, rfl, by decide +kernel, rfl, by decide +kernel, by decide +kernel⟩
theorem b_l_ints {P : Program} {w : World} {K : PySem.W.Frag} {mg : Str → Option Value} {base : Heap} {C_Apart C_NoTie C_RillError C_TooMany : Addr} (T : TX K mg C_Apart C_NoTie C_RillError C_TooMany) {f : Addr} (cdv : Value) (A : Around) (outer : List Env) (s : Shared) (H : Hp) (E : XK) (hr : Room 0 (A.deeper (envOfC "_law_ints" (defScope s_l_ints) s.heap.objs.size f cdv))) :
    SSs (cxOf CX0 P w K mg base N_l_ints "_law_ints" (defScope s_l_ints) f cdv A outer s H E).nox k_l_ints [] .fz (defBody s_l_ints) (wb_l_ints) :=
  (sss_one (ss_ret (Me := []) (se_blt (cr_all rfl) bd_all (by rfl) T.b_all bt_all (sa_cons (se_lc rfl sc_l_ints.nd (si_seq (se_r (pv 0) rfl)) (own := [("number", 1)]) (blkOk_by (by kernel_rfl)) (fun _ _ _ _ _ => (sg_name (pg_name (i := 1) sc_l_ints.nd rfl (by first | exact Or.inl rfl | exact Or.inr rfl)) rfl)) (fun _ _ _ _ _ => sp_nil) (fun _ _ _ _ _ => (se_and (se_isi kt_int (se_v (pv 1) rfl) (by rfl) T.b_isinstance (by rfl) T.b_int bt_int) (se_one (se_not (se_isi kt_bool (se_v (pv 1) rfl) (by rfl) T.b_isinstance (by rfl) T.b_bool bt_bool)))))) sa_nil))))
theorem g_l_ints {P : Program} {w : World} {K : PySem.W.Frag} {mg : Str → Option Value} {base : Heap} {f : Addr} {fd : FuncData} {C_Apart C_NoTie C_RillError C_TooMany : Addr} (T : TX K mg C_Apart C_NoTie C_RillError C_TooMany) (F : Fun K "_law_ints" "_law_ints" s_l_ints f fd) (hm : mg "_law_ints" = some (.ref f)) : FnB P w K mg base 1 "_law_ints" ["some"] [.rd] .fz S_l_ints :=
  ⟨f, fd, fn_def [.rd] F sc_l_ints rfl rfl rfl (by first | exact .inl rfl | exact .inr rfl) (by intro i; match i with | i => exact noq (by decide) i) (b_l_ints T) m_l_ints, hm, F.kp, F.binds fun _ _ _ _ _ _ us hl => match us, hl with | [_], _ => rfl⟩
abbrev s_law : Stmt := topS 22
abbrev N_law : List Str := ["script", "cell", "pool", "web", "due", "found", "fall", "kept"]
abbrev k_law : List SK := [.r, .v, .p, .v, .v, .v, .v, .o]
theorem sc_law : FnScope N_law ["script"] (defScope s_law) := ⟨rfl, rfl, rfl, by decide +kernel, rfl, by decide +kernel, by decide +kernel⟩
theorem b_law {P : Program} {w : World} {K : PySem.W.Frag} {mg : Str → Option Value} {base : Heap} {C_Apart C_NoTie C_RillError C_TooMany : Addr} (T : TX K mg C_Apart C_NoTie C_RillError C_TooMany) (G_l_pool : FnB P w K mg base 1 "_law_pool" ["cell"] [.rd] .nw S_l_pool) (G_l_web : FnB P w K mg base 3 "_law_web" ["pool", "most", "room", "whole"] [.pl, .rd, .rd, .rd] .fz S_l_web) (G_l_next : FnB P w K mg base 1 "_law_next" ["pool", "base"] [.pl, .rd] .fz S_l_next) (G_l_counts : FnB P w K mg base 2 "_law_counts" ["web"] [.rd] .fz S_l_counts) (G_l_told_falls : FnB P w K mg base 4 "_law_told_falls" ["web"] [.rd] .fz S_l_told_falls) (G_l_ints : FnB P w K mg base 1 "_law_ints" ["some"] [.rd] .fz S_l_ints) (G_l_is_fall : FnB P w K mg base 2 "_law_is_fall" ["web", "pointing"] [.rd, .rd] .fz S_l_is_fall) (G_all_falls : FnBX P w K mg base 3 "all_falls" ["web"] [.rd] .fz S_all_falls) {f : Addr} (cdv : Value) (A : Around) (outer : List Env) (s : Shared) (H : Hp) (E : XK) (hr : Room 4 (A.deeper (envOfC "law" (defScope s_law) s.heap.objs.size f cdv))) :
    SSs (cxOf CX0 P w K mg base N_law "law" (defScope s_law) f cdv A outer s H E).nox k_law [7, 999] .fz (defBody s_law) (wb_law S_l_pool S_l_web S_l_next S_l_counts S_l_told_falls S_l_ints S_l_is_fall S_all_falls) :=
  (sss_cons (ss_for (Me := []) PassesOwn.never rfl (si_seqH (se_bin op_catR od_addL (se_lst (sa_cons se_int sa_nil)) (se_sl sl_F sd_F (se_r (pv 0) rfl) so_n (so_s se_int)))) (sg_name (pg_name (i := 1) sc_law.nd rfl (by first | exact Or.inl rfl | exact Or.inr rfl)) rfl) (sss_cons (ss_setP (Me := []) (i := 2) sc_law.nd rfl (by first | exact Or.inl rfl | exact Or.inr rfl) (se_fn G_l_pool hr (by rfl) (sa_cons (se_v (pv 1) rfl) sa_nil)) rfl)
      (sss_cons (ss_set (Me := []) (i := 3) sc_law.nd rfl (by first | exact Or.inl rfl | exact Or.inr rfl) (se_fn G_l_web hr (by rfl) (sa_cons (se_p (pv 2) rfl) (sa_cons se_int (sa_cons (se_ix ix_seq od_ix (se_lst (sa_cons se_int (sa_cons se_int (sa_cons se_int (sa_cons se_int sa_nil))))) (se_fn G_l_next hr (by rfl) (sa_cons (se_p (pv 2) rfl) (sa_cons se_int sa_nil))) (fun _ _ => rfl)) (sa_cons se_bl sa_nil))))) rfl)
      (sss_cons (ss_set (Me := []) (i := 4) sc_law.nd rfl (by first | exact Or.inl rfl | exact Or.inr rfl) (se_ix ix_seq od_ix (se_ix ix_seq od_ix (se_fn G_l_counts hr (by rfl) (sa_cons (se_v (pv 3) rfl) sa_nil)) se_int (fun _ _ => rfl)) (se_un un_neg o1_neg se_int) (fun _ _ => rfl)) rfl)
      (sss_cons (ss_set (Me := []) (i := 5) sc_law.nd rfl (by first | exact Or.inl rfl | exact Or.inr rfl) (se_fn G_l_told_falls hr (by rfl) (sa_cons (se_v (pv 3) rfl) sa_nil)) rfl)
      (sss_cons (ss_if (Me := []) (SW.st (sw_and (st_cmp op_gt od_gt (se_v (pv 4) rfl) se_int (nomark _)) (sw_and1 (st_cmp (op_neD hr.units) od_ne (se_v (pv 5) rfl) se_str (nomark _))))) (sss_one (ss_ret (Me := []) se_bl)) sss_nil)
      (sss_one (ss_if (Me := []) (st_cmp op_le od_le (se_v (pv 4) rfl) se_int (nomark _)) (sss_cons (ss_if (Me := []) (SW.st (sw_or (st_not (st_val (se_isi kt_list (se_v (pv 5) rfl) (by rfl) T.b_isinstance (by rfl) T.b_list bt_list))) (sw_or (st_cmp (op_neD hr.units) od_ne (se_blt call_len_seq bd_len (by rfl) T.b_len bt_len (sa_cons (se_v (pv 5) rfl) sa_nil)) (se_v (pv 4) rfl) (nomark _)) (sw_or1 (st_cmp (op_neD hr.units) od_ne (se_lenTb (room65 hr) (by rfl) T.b_len (by rfl) T.b_set (se_v (pv 5) rfl)) (se_v (pv 4) rfl) (nomark _)))))) (sss_one (ss_ret (Me := []) se_bl)) sss_nil)
      (sss_cons (ss_if (Me := []) (st_cmp (op_neD hr.units) od_ne (se_v (pv 5) rfl) (se_blt cr_sortedTs bd_sortedTs (by rfl) T.b_sorted bt_sorted (sa_cons (se_v (pv 5) rfl) sa_nil)) (nomark _)) (sss_one (ss_ret (Me := []) se_bl)) sss_nil)
      (sss_cons (SS.mono (ss_for (M := []) (Me := []) PassesOwn.never rfl (si_seq (se_v (pv 5) rfl)) (sg_name (pg_name (i := 6) sc_law.nd rfl (by first | exact Or.inl rfl | exact Or.inr rfl)) rfl) (sss_cons (ss_if (Me := []) (SW.st (sw_or (st_not (st_val (se_isi kt_tuple (se_v (pv 6) rfl) (by rfl) T.b_isinstance (by rfl) T.b_tuple bt_tuple))) (sw_or (st_not (st_val (se_fn G_l_ints hr (by rfl) (sa_cons (se_v (pv 6) rfl) sa_nil)))) (sw_or1 (st_cmp (op_neD hr.units) od_ne (se_blt call_len_seq bd_len (by rfl) T.b_len bt_len (sa_cons (se_v (pv 6) rfl) sa_nil)) (se_blt call_len_seq bd_len (by rfl) T.b_len bt_len (sa_cons (se_ix ix_seq od_ix (se_v (pv 3) rfl) se_int (fun _ _ => rfl)) sa_nil)) (nomark _)))))) (sss_one (ss_ret (Me := []) se_bl)) sss_nil)
      (sss_one (ss_if (Me := []) (st_not (st_val (se_fn G_l_is_fall hr (by rfl) (sa_cons (se_v (pv 3) rfl) (sa_cons (se_v (pv 6) rfl) sa_nil))))) (sss_one (ss_ret (Me := []) se_bl)) sss_nil)))))
      (sss_cons (ss_setO (Me := []) (i := 7) sc_law.nd rfl (by first | exact Or.inl rfl | exact Or.inr rfl) (se_bty call_list_of bd_lst (by rfl) T.b_list bt_list (sa_cons (se_v (pv 5) rfl) sa_nil)) rfl)
      (sss_cons (ss_mutV none (se_v (pv 5) rfl) (se_tup sa_nil))
      (sss_one (ss_if (Me := []) (st_cmp (op_neD hr.units) od_ne (se_fnX G_all_falls hr (by rfl) (sa_cons (se_v (pv 3) rfl) sa_nil)) (se_o (pv 7) rfl) (nomark _)) (sss_one (ss_ret (Me := []) se_bl)) sss_nil))))))) sss_nil))))))))
      (sss_one (ss_ret (Me := []) se_bl)))
theorem g_law {P : Program} {w : World} {K : PySem.W.Frag} {mg : Str → Option Value} {base : Heap} {f : Addr} {fd : FuncData} {C_Apart C_NoTie C_RillError C_TooMany : Addr} (T : TX K mg C_Apart C_NoTie C_RillError C_TooMany) (G_l_pool : FnB P w K mg base 1 "_law_pool" ["cell"] [.rd] .nw S_l_pool) (G_l_web : FnB P w K mg base 3 "_law_web" ["pool", "most", "room", "whole"] [.pl, .rd, .rd, .rd] .fz S_l_web) (G_l_next : FnB P w K mg base 1 "_law_next" ["pool", "base"] [.pl, .rd] .fz S_l_next) (G_l_counts : FnB P w K mg base 2 "_law_counts" ["web"] [.rd] .fz S_l_counts) (G_l_told_falls : FnB P w K mg base 4 "_law_told_falls" ["web"] [.rd] .fz S_l_told_falls) (G_l_ints : FnB P w K mg base 1 "_law_ints" ["some"] [.rd] .fz S_l_ints) (G_l_is_fall : FnB P w K mg base 2 "_law_is_fall" ["web", "pointing"] [.rd, .rd] .fz S_l_is_fall) (G_all_falls : FnBX P w K mg base 3 "all_falls" ["web"] [.rd] .fz S_all_falls) (F : Fun K "law" "law" s_law f fd) : FnOk P w K mg base CX0 5 f fd ["script"] (spOfL K [.rd] .fz lawS) :=
  fn_defL [.rd] F sc_law rfl rfl rfl (by first | exact .inl rfl | exact .inr rfl) (by intro i; exact noq (by decide) i) (b_law T G_l_pool G_l_web G_l_next G_l_counts G_l_told_falls G_l_ints G_l_is_fall G_all_falls) m_law
theorem all_mk {l : PySem.W.OpenLaw} {w : World} {K : PySem.W.Frag} {h : Heap} {mg : Str → Option Value} {fa : Addr} (X : K.In h) (G : h.Ns mainGlobals mg) (hfa : mg "law" = some (.ref fa))
    {f_l_pool : Addr} {od_l_pool an_l_pool : Option Addr} {sl_l_pool : Array (Option Value)} {oc_l_pool kV_l_pool dc_l_pool pm_l_pool cd_l_pool ct_l_pool : Value}
    (a_l_pool : PySem.W.nsIn K mainGlobals "_law_pool" = some (some (.ref f_l_pool))) (l_l_pool : K.lookup f_l_pool = some ⟨oc_l_pool, od_l_pool, .func (PySem.W.fnOf "_law_pool" "_law_pool" (defArgs s_l_pool) (defBody s_l_pool) (defScope s_l_pool) .none kV_l_pool dc_l_pool pm_l_pool an_l_pool cd_l_pool ct_l_pool), sl_l_pool⟩) (c_l_pool : PySem.W.codeIn K cd_l_pool "_law_pool" = true) (k_l_pool' : PySem.W.keepIn K (.ref f_l_pool) = true)
    {f_l_next : Addr} {od_l_next an_l_next : Option Addr} {sl_l_next : Array (Option Value)} {oc_l_next kV_l_next dc_l_next pm_l_next cd_l_next ct_l_next : Value}
    (a_l_next : PySem.W.nsIn K mainGlobals "_law_next" = some (some (.ref f_l_next))) (l_l_next : K.lookup f_l_next = some ⟨oc_l_next, od_l_next, .func (PySem.W.fnOf "_law_next" "_law_next" (defArgs s_l_next) (defBody s_l_next) (defScope s_l_next) .none kV_l_next dc_l_next pm_l_next an_l_next cd_l_next ct_l_next), sl_l_next⟩) (c_l_next : PySem.W.codeIn K cd_l_next "_law_next" = true) (k_l_next' : PySem.W.keepIn K (.ref f_l_next) = true)
    {f_l_shuffled : Addr} {od_l_shuffled an_l_shuffled : Option Addr} {sl_l_shuffled : Array (Option Value)} {oc_l_shuffled kV_l_shuffled dc_l_shuffled pm_l_shuffled cd_l_shuffled ct_l_shuffled : Value}
    (a_l_shuffled : PySem.W.nsIn K mainGlobals "_law_shuffled" = some (some (.ref f_l_shuffled))) (l_l_shuffled : K.lookup f_l_shuffled = some ⟨oc_l_shuffled, od_l_shuffled, .func (PySem.W.fnOf "_law_shuffled" "_law_shuffled" (defArgs s_l_shuffled) (defBody s_l_shuffled) (defScope s_l_shuffled) .none kV_l_shuffled dc_l_shuffled pm_l_shuffled an_l_shuffled cd_l_shuffled ct_l_shuffled), sl_l_shuffled⟩) (c_l_shuffled : PySem.W.codeIn K cd_l_shuffled "_law_shuffled" = true) (k_l_shuffled' : PySem.W.keepIn K (.ref f_l_shuffled) = true)
    {f_l_pair : Addr} {od_l_pair an_l_pair : Option Addr} {sl_l_pair : Array (Option Value)} {oc_l_pair kV_l_pair dc_l_pair pm_l_pair cd_l_pair ct_l_pair : Value}
    (a_l_pair : PySem.W.nsIn K mainGlobals "_law_pair" = some (some (.ref f_l_pair))) (l_l_pair : K.lookup f_l_pair = some ⟨oc_l_pair, od_l_pair, .func (PySem.W.fnOf "_law_pair" "_law_pair" (defArgs s_l_pair) (defBody s_l_pair) (defScope s_l_pair) .none kV_l_pair dc_l_pair pm_l_pair an_l_pair cd_l_pair ct_l_pair), sl_l_pair⟩) (c_l_pair : PySem.W.codeIn K cd_l_pair "_law_pair" = true) (k_l_pair' : PySem.W.keepIn K (.ref f_l_pair) = true)
    {f_l_web : Addr} {od_l_web an_l_web : Option Addr} {sl_l_web : Array (Option Value)} {oc_l_web kV_l_web dc_l_web pm_l_web cd_l_web ct_l_web : Value}
    (a_l_web : PySem.W.nsIn K mainGlobals "_law_web" = some (some (.ref f_l_web))) (l_l_web : K.lookup f_l_web = some ⟨oc_l_web, od_l_web, .func (PySem.W.fnOf "_law_web" "_law_web" (defArgs s_l_web) (defBody s_l_web) (defScope s_l_web) .none kV_l_web dc_l_web pm_l_web an_l_web cd_l_web ct_l_web), sl_l_web⟩) (c_l_web : PySem.W.codeIn K cd_l_web "_law_web" = true) (k_l_web' : PySem.W.keepIn K (.ref f_l_web) = true)
    {f_led_on : Addr} {od_led_on an_led_on : Option Addr} {sl_led_on : Array (Option Value)} {oc_led_on kV_led_on dc_led_on pm_led_on cd_led_on ct_led_on : Value}
    (a_led_on : PySem.W.nsIn K mainGlobals "led_on" = some (some (.ref f_led_on))) (l_led_on : K.lookup f_led_on = some ⟨oc_led_on, od_led_on, .func (PySem.W.fnOf "led_on" "led_on" (defArgs s_led_on) (defBody s_led_on) (defScope s_led_on) .none kV_led_on dc_led_on pm_led_on an_led_on cd_led_on ct_led_on), sl_led_on⟩) (c_led_on : PySem.W.codeIn K cd_led_on "led_on" = true) (k_led_on' : PySem.W.keepIn K (.ref f_led_on) = true)
    {f_grown : Addr} {od_grown an_grown : Option Addr} {sl_grown : Array (Option Value)} {oc_grown kV_grown dc_grown pm_grown cd_grown ct_grown : Value}
    (a_grown : PySem.W.nsIn K mainGlobals "grown" = some (some (.ref f_grown))) (l_grown : K.lookup f_grown = some ⟨oc_grown, od_grown, .func (PySem.W.fnOf "grown" "grown" (defArgs s_grown) (defBody s_grown) (defScope s_grown) .none kV_grown dc_grown pm_grown an_grown cd_grown ct_grown), sl_grown⟩) (c_grown : PySem.W.codeIn K cd_grown "grown" = true) (k_grown' : PySem.W.keepIn K (.ref f_grown) = true)
    {f_all_falls : Addr} {od_all_falls an_all_falls : Option Addr} {sl_all_falls : Array (Option Value)} {oc_all_falls kV_all_falls dc_all_falls pm_all_falls cd_all_falls ct_all_falls : Value}
    (a_all_falls : PySem.W.nsIn K mainGlobals "all_falls" = some (some (.ref f_all_falls))) (l_all_falls : K.lookup f_all_falls = some ⟨oc_all_falls, od_all_falls, .func (PySem.W.fnOf "all_falls" "all_falls" (defArgs s_all_falls) (defBody s_all_falls) (defScope s_all_falls) .none kV_all_falls dc_all_falls pm_all_falls an_all_falls cd_all_falls ct_all_falls), sl_all_falls⟩) (c_all_falls : PySem.W.codeIn K cd_all_falls "all_falls" = true) (k_all_falls' : PySem.W.keepIn K (.ref f_all_falls) = true)
    {f_l_told_falls : Addr} {od_l_told_falls an_l_told_falls : Option Addr} {sl_l_told_falls : Array (Option Value)} {oc_l_told_falls kV_l_told_falls dc_l_told_falls pm_l_told_falls cd_l_told_falls ct_l_told_falls : Value}
    (a_l_told_falls : PySem.W.nsIn K mainGlobals "_law_told_falls" = some (some (.ref f_l_told_falls))) (l_l_told_falls : K.lookup f_l_told_falls = some ⟨oc_l_told_falls, od_l_told_falls, .func (PySem.W.fnOf "_law_told_falls" "_law_told_falls" (defArgs s_l_told_falls) (defBody s_l_told_falls) (defScope s_l_told_falls) .none kV_l_told_falls dc_l_told_falls pm_l_told_falls an_l_told_falls cd_l_told_falls ct_l_told_falls), sl_l_told_falls⟩) (c_l_told_falls : PySem.W.codeIn K cd_l_told_falls "_law_told_falls" = true) (k_l_told_falls' : PySem.W.keepIn K (.ref f_l_told_falls) = true)
    {f_l_lowest : Addr} {od_l_lowest an_l_lowest : Option Addr} {sl_l_lowest : Array (Option Value)} {oc_l_lowest kV_l_lowest dc_l_lowest pm_l_lowest cd_l_lowest ct_l_lowest : Value}
    (a_l_lowest : PySem.W.nsIn K mainGlobals "_law_lowest" = some (some (.ref f_l_lowest))) (l_l_lowest : K.lookup f_l_lowest = some ⟨oc_l_lowest, od_l_lowest, .func (PySem.W.fnOf "_law_lowest" "_law_lowest" (defArgs s_l_lowest) (defBody s_l_lowest) (defScope s_l_lowest) .none kV_l_lowest dc_l_lowest pm_l_lowest an_l_lowest cd_l_lowest ct_l_lowest), sl_l_lowest⟩) (c_l_lowest : PySem.W.codeIn K cd_l_lowest "_law_lowest" = true) (k_l_lowest' : PySem.W.keepIn K (.ref f_l_lowest) = true)
    {f_l_counts : Addr} {od_l_counts an_l_counts : Option Addr} {sl_l_counts : Array (Option Value)} {oc_l_counts kV_l_counts dc_l_counts pm_l_counts cd_l_counts ct_l_counts : Value}
    (a_l_counts : PySem.W.nsIn K mainGlobals "_law_counts" = some (some (.ref f_l_counts))) (l_l_counts : K.lookup f_l_counts = some ⟨oc_l_counts, od_l_counts, .func (PySem.W.fnOf "_law_counts" "_law_counts" (defArgs s_l_counts) (defBody s_l_counts) (defScope s_l_counts) .none kV_l_counts dc_l_counts pm_l_counts an_l_counts cd_l_counts ct_l_counts), sl_l_counts⟩) (c_l_counts : PySem.W.codeIn K cd_l_counts "_law_counts" = true) (k_l_counts' : PySem.W.keepIn K (.ref f_l_counts) = true)
    {f_l_flows : Addr} {od_l_flows an_l_flows : Option Addr} {sl_l_flows : Array (Option Value)} {oc_l_flows kV_l_flows dc_l_flows pm_l_flows cd_l_flows ct_l_flows : Value}
    (a_l_flows : PySem.W.nsIn K mainGlobals "_law_flows" = some (some (.ref f_l_flows))) (l_l_flows : K.lookup f_l_flows = some ⟨oc_l_flows, od_l_flows, .func (PySem.W.fnOf "_law_flows" "_law_flows" (defArgs s_l_flows) (defBody s_l_flows) (defScope s_l_flows) .none kV_l_flows dc_l_flows pm_l_flows an_l_flows cd_l_flows ct_l_flows), sl_l_flows⟩) (c_l_flows : PySem.W.codeIn K cd_l_flows "_law_flows" = true) (k_l_flows' : PySem.W.keepIn K (.ref f_l_flows) = true)
    {f_l_is_fall : Addr} {od_l_is_fall an_l_is_fall : Option Addr} {sl_l_is_fall : Array (Option Value)} {oc_l_is_fall kV_l_is_fall dc_l_is_fall pm_l_is_fall cd_l_is_fall ct_l_is_fall : Value}
    (a_l_is_fall : PySem.W.nsIn K mainGlobals "_law_is_fall" = some (some (.ref f_l_is_fall))) (l_l_is_fall : K.lookup f_l_is_fall = some ⟨oc_l_is_fall, od_l_is_fall, .func (PySem.W.fnOf "_law_is_fall" "_law_is_fall" (defArgs s_l_is_fall) (defBody s_l_is_fall) (defScope s_l_is_fall) .none kV_l_is_fall dc_l_is_fall pm_l_is_fall an_l_is_fall cd_l_is_fall ct_l_is_fall), sl_l_is_fall⟩) (c_l_is_fall : PySem.W.codeIn K cd_l_is_fall "_law_is_fall" = true) (k_l_is_fall' : PySem.W.keepIn K (.ref f_l_is_fall) = true)
    {f_l_ints : Addr} {od_l_ints an_l_ints : Option Addr} {sl_l_ints : Array (Option Value)} {oc_l_ints kV_l_ints dc_l_ints pm_l_ints cd_l_ints ct_l_ints : Value}
    (a_l_ints : PySem.W.nsIn K mainGlobals "_law_ints" = some (some (.ref f_l_ints))) (l_l_ints : K.lookup f_l_ints = some ⟨oc_l_ints, od_l_ints, .func (PySem.W.fnOf "_law_ints" "_law_ints" (defArgs s_l_ints) (defBody s_l_ints) (defScope s_l_ints) .none kV_l_ints dc_l_ints pm_l_ints an_l_ints cd_l_ints ct_l_ints), sl_l_ints⟩) (c_l_ints : PySem.W.codeIn K cd_l_ints "_law_ints" = true) (k_l_ints' : PySem.W.keepIn K (.ref f_l_ints) = true)
    {f_law : Addr} {od_law an_law : Option Addr} {sl_law : Array (Option Value)} {oc_law kV_law dc_law pm_law cd_law ct_law : Value}
    (a_law : PySem.W.nsIn K mainGlobals "law" = some (some (.ref f_law))) (l_law : K.lookup f_law = some ⟨oc_law, od_law, .func (PySem.W.fnOf "law" "law" (defArgs s_law) (defBody s_law) (defScope s_law) .none kV_law dc_law pm_law an_law cd_law ct_law), sl_law⟩) (c_law : PySem.W.codeIn K cd_law "law" = true) (k_law' : PySem.W.keepIn K (.ref f_law) = true)
    {C_Apart C_NoTie C_RillError C_TooMany : Addr}
    (n_Apart : PySem.W.nsIn K mainGlobals "Apart" = some (some (.ref C_Apart)))
    (n_NoTie : PySem.W.nsIn K mainGlobals "NoTie" = some (some (.ref C_NoTie)))
    (n_RillError : PySem.W.nsIn K mainGlobals "RillError" = some (some (.ref C_RillError)))
    (n_TooMany : PySem.W.nsIn K mainGlobals "TooMany" = some (some (.ref C_TooMany)))
    (t_k_Apart : PySem.W.keepIn K (.ref C_Apart) = true)
    (t_bs_Apart : PySem.W.subIn K (.ref C_Apart) (.type "BaseException") = some true)
    (t_ty_Apart : PySem.W.typeIn K (.ref C_Apart) = some (.type "type"))
    (t_is_Apart : PySem.W.isClsIn K C_Apart = true)
    (t_hd_Apart : PySem.W.hasDictIn K C_Apart = true)
    (t_sf_Apart : PySem.W.subIn K (.ref C_Apart) (.ref C_Apart) = some true)
    (t_k_NoTie : PySem.W.keepIn K (.ref C_NoTie) = true)
    (t_bs_NoTie : PySem.W.subIn K (.ref C_NoTie) (.type "BaseException") = some true)
    (t_ty_NoTie : PySem.W.typeIn K (.ref C_NoTie) = some (.type "type"))
    (t_is_NoTie : PySem.W.isClsIn K C_NoTie = true)
    (t_hd_NoTie : PySem.W.hasDictIn K C_NoTie = true)
    (t_sf_NoTie : PySem.W.subIn K (.ref C_NoTie) (.ref C_NoTie) = some true)
    (t_k_RillError : PySem.W.keepIn K (.ref C_RillError) = true)
    (t_bs_RillError : PySem.W.subIn K (.ref C_RillError) (.type "BaseException") = some true)
    (t_ty_RillError : PySem.W.typeIn K (.ref C_RillError) = some (.type "type"))
    (t_is_RillError : PySem.W.isClsIn K C_RillError = true)
    (t_hd_RillError : PySem.W.hasDictIn K C_RillError = true)
    (t_sf_RillError : PySem.W.subIn K (.ref C_RillError) (.ref C_RillError) = some true)
    (t_k_TooMany : PySem.W.keepIn K (.ref C_TooMany) = true)
    (t_bs_TooMany : PySem.W.subIn K (.ref C_TooMany) (.type "BaseException") = some true)
    (t_ty_TooMany : PySem.W.typeIn K (.ref C_TooMany) = some (.type "type"))
    (t_is_TooMany : PySem.W.isClsIn K C_TooMany = true)
    (t_hd_TooMany : PySem.W.hasDictIn K C_TooMany = true)
    (t_sf_TooMany : PySem.W.subIn K (.ref C_TooMany) (.ref C_TooMany) = some true)
    (t_ga_TooMany : PySem.W.findIn K (.ref C_TooMany) "__getattribute__" = some (some (.builtin "BaseException.__getattribute__")))
    (t_gg_TooMany : PySem.W.findIn K (.ref C_TooMany) "__getattr__" = some none)
    (t_gc_TooMany : PySem.W.findIn K (.ref C_TooMany) "__class__" = some (some (.builtin "object.__class__")))
    (t_mo_TooMany : PySem.W.mroIn K C_TooMany (.type "object") = some true)
    (t_x_TooMany : PySem.W.excIn K C_TooMany [.type "ValueError", .type "Exception", .type "BaseException", .type "object"] "ValueError.__new__" = true)
    (t_su_TooMany_Apart : PySem.W.subIn K (.ref C_TooMany) (.ref C_Apart) = some false)
    (t_su_TooMany_NoTie : PySem.W.subIn K (.ref C_TooMany) (.ref C_NoTie) = some false)
    (t_su_TooMany_RillError : PySem.W.subIn K (.ref C_TooMany) (.ref C_RillError) = some true)
    (t_su_TooMany_TooMany : PySem.W.subIn K (.ref C_TooMany) (.ref C_TooMany) = some true)
    (t_sv_TooMany : PySem.W.subIn K (.ref C_TooMany) (.type "ValueError") = some true)
    (t_sp0 : PySem.W.specialIn K (.builtin "object.__class__") "__get__" = some (some (.builtin "getset_descriptor.__get__")))
    (t_tk0 : PySem.W.takesIn K (.builtin "object.__class__") = some true)
    (z_ValueError : PySem.W.nsIn K mainGlobals "ValueError" = some none)
    (z_all : PySem.W.nsIn K mainGlobals "all" = some none)
    (z_bool : PySem.W.nsIn K mainGlobals "bool" = some none)
    (z_enumerate : PySem.W.nsIn K mainGlobals "enumerate" = some none)
    (z_int : PySem.W.nsIn K mainGlobals "int" = some none)
    (z_isinstance : PySem.W.nsIn K mainGlobals "isinstance" = some none)
    (z_len : PySem.W.nsIn K mainGlobals "len" = some none)
    (z_list : PySem.W.nsIn K mainGlobals "list" = some none)
    (z_max : PySem.W.nsIn K mainGlobals "max" = some none)
    (z_min : PySem.W.nsIn K mainGlobals "min" = some none)
    (z_range : PySem.W.nsIn K mainGlobals "range" = some none)
    (z_set : PySem.W.nsIn K mainGlobals "set" = some none)
    (z_sorted : PySem.W.nsIn K mainGlobals "sorted" = some none)
    (z_tuple : PySem.W.nsIn K mainGlobals "tuple" = some none)
    {k0_MOST_FALLS : Tok} (y_MOST_FALLS : PySem.W.nsIn K mainGlobals "MOST_FALLS" = some (some (.int 300 k0_MOST_FALLS)))
    : ∃ fd : FuncData, (∀ (s : Shared) (v : Value), BindsTo s fd ⟨[v], []⟩ [("script", v)]) ∧ ∀ base : Heap, K.In base → base.Ns mainGlobals mg → FnOk l.prog w K mg base CX0 5 fa fd ["script"] (spOfL K [.rd] .fz lawS) := by
  have e := hfa.symm.trans (PySem.W.mg_of X G a_law)
  cases e
  have T : TX K mg C_Apart C_NoTie C_RillError C_TooMany := ⟨PySem.W.mg_of X G n_Apart, PySem.W.mg_of X G n_NoTie, PySem.W.mg_of X G n_RillError, PySem.W.mg_of X G n_TooMany, t_k_Apart, t_bs_Apart, t_ty_Apart, t_is_Apart, t_hd_Apart, t_sf_Apart, t_k_NoTie, t_bs_NoTie, t_ty_NoTie, t_is_NoTie, t_hd_NoTie, t_sf_NoTie, t_k_RillError, t_bs_RillError, t_ty_RillError, t_is_RillError, t_hd_RillError, t_sf_RillError, t_k_TooMany, t_bs_TooMany, t_ty_TooMany, t_is_TooMany, t_hd_TooMany, t_sf_TooMany, t_ga_TooMany, t_gg_TooMany, t_gc_TooMany, t_mo_TooMany, t_x_TooMany, t_su_TooMany_Apart, t_su_TooMany_NoTie, t_su_TooMany_RillError, t_su_TooMany_TooMany, t_sv_TooMany, t_sp0, t_tk0, PySem.W.mg_none_of X G z_ValueError, PySem.W.mg_none_of X G z_all, PySem.W.mg_none_of X G z_bool, PySem.W.mg_none_of X G z_enumerate, PySem.W.mg_none_of X G z_int, PySem.W.mg_none_of X G z_isinstance, PySem.W.mg_none_of X G z_len, PySem.W.mg_none_of X G z_list, PySem.W.mg_none_of X G z_max, PySem.W.mg_none_of X G z_min, PySem.W.mg_none_of X G z_range, PySem.W.mg_none_of X G z_set, PySem.W.mg_none_of X G z_sorted, PySem.W.mg_none_of X G z_tuple, ⟨_, PySem.W.mg_of X G y_MOST_FALLS⟩⟩
  refine ⟨PySem.W.fnOf "law" "law" (defArgs s_law) (defBody s_law) (defScope s_law) .none kV_law dc_law pm_law an_law cd_law ct_law, fun s v => .of_eq rfl, fun base _ _ => ?_⟩
  have H_l_pool := g_l_pool (P := l.prog) (w := w) (K := K) (mg := mg) (base := base) T (fun_mk (st := s_l_pool) l_l_pool c_l_pool k_l_pool') (PySem.W.mg_of X G a_l_pool)
  have H_l_next := g_l_next (P := l.prog) (w := w) (K := K) (mg := mg) (base := base) T (fun_mk (st := s_l_next) l_l_next c_l_next k_l_next') (PySem.W.mg_of X G a_l_next)
  have H_l_shuffled := g_l_shuffled (P := l.prog) (w := w) (K := K) (mg := mg) (base := base) T H_l_next (fun_mk (st := s_l_shuffled) l_l_shuffled c_l_shuffled k_l_shuffled') (PySem.W.mg_of X G a_l_shuffled)
  have H_l_pair := g_l_pair (P := l.prog) (w := w) (K := K) (mg := mg) (base := base) T (fun_mk (st := s_l_pair) l_l_pair c_l_pair k_l_pair') (PySem.W.mg_of X G a_l_pair)
  have H_l_web := g_l_web (P := l.prog) (w := w) (K := K) (mg := mg) (base := base) T H_l_next H_l_shuffled H_l_pair (fun_mk (st := s_l_web) l_l_web c_l_web k_l_web') (PySem.W.mg_of X G a_l_web)
  have H_led_on := g_led_on (P := l.prog) (w := w) (K := K) (mg := mg) (base := base) T (fun_mk (st := s_led_on) l_led_on c_led_on k_led_on') (PySem.W.mg_of X G a_led_on)
  have H_grown := g_grown (P := l.prog) (w := w) (K := K) (mg := mg) (base := base) T H_led_on (fun_mk (st := s_grown) l_grown c_grown k_grown') (PySem.W.mg_of X G a_grown)
  have H_all_falls := g_all_falls (P := l.prog) (w := w) (K := K) (mg := mg) (base := base) T H_grown (fun_mk (st := s_all_falls) l_all_falls c_all_falls k_all_falls') (PySem.W.mg_of X G a_all_falls)
  have H_l_told_falls := g_l_told_falls (P := l.prog) (w := w) (K := K) (mg := mg) (base := base) T H_all_falls (fun_mk (st := s_l_told_falls) l_l_told_falls c_l_told_falls k_l_told_falls') (PySem.W.mg_of X G a_l_told_falls)
  have H_l_lowest := g_l_lowest (P := l.prog) (w := w) (K := K) (mg := mg) (base := base) T (fun_mk (st := s_l_lowest) l_l_lowest c_l_lowest k_l_lowest') (PySem.W.mg_of X G a_l_lowest)
  have H_l_counts := g_l_counts (P := l.prog) (w := w) (K := K) (mg := mg) (base := base) T H_l_lowest (fun_mk (st := s_l_counts) l_l_counts c_l_counts k_l_counts') (PySem.W.mg_of X G a_l_counts)
  have H_l_flows := g_l_flows (P := l.prog) (w := w) (K := K) (mg := mg) (base := base) T (fun_mk (st := s_l_flows) l_l_flows c_l_flows k_l_flows') (PySem.W.mg_of X G a_l_flows)
  have H_l_is_fall := g_l_is_fall (P := l.prog) (w := w) (K := K) (mg := mg) (base := base) T H_l_flows (fun_mk (st := s_l_is_fall) l_l_is_fall c_l_is_fall k_l_is_fall') (PySem.W.mg_of X G a_l_is_fall)
  have H_l_ints := g_l_ints (P := l.prog) (w := w) (K := K) (mg := mg) (base := base) T (fun_mk (st := s_l_ints) l_l_ints c_l_ints k_l_ints') (PySem.W.mg_of X G a_l_ints)
  exact g_law T H_l_pool H_l_web H_l_next H_l_counts H_l_told_falls H_l_ints H_l_is_fall H_all_falls (fun_mk (st := s_law) l_law c_law k_law')
end K20
end G7
open PySem PySem.W PyProof.Rows
set_option maxRecDepth 100000 in
set_option maxHeartbeats 0 in
theorem PySem.Challenge.cw_rillturn_k20_all_falls_holds : PySem.Challenge.rw_rillturn_k20_all_falls.Holds := by
  w_on; o_law; k_head; (case hw => w_witness2)
  k_fill
  refine G7.law_walk (l := PySem.Challenge.rw_rillturn_k20_all_falls) (k := 5) rfl rfl ⟨rfl, by decide, by decide⟩ (fun w h Y => PySem.W.kIn_of Y) ?NL ?F
  case NL =>
    intro w
    first | rfl | decide +kernel
  case F =>
    intro w mg fa h KX G hmg
    refine' G7.K20.all_mk KX G hmg ?a_l_pool ?l_l_pool ?c_l_pool ?k_l_pool' ?a_l_next ?l_l_next ?c_l_next ?k_l_next' ?a_l_shuffled ?l_l_shuffled ?c_l_shuffled ?k_l_shuffled' ?a_l_pair ?l_l_pair ?c_l_pair ?k_l_pair' ?a_l_web ?l_l_web ?c_l_web ?k_l_web' ?a_led_on ?l_led_on ?c_led_on ?k_led_on' ?a_grown ?l_grown ?c_grown ?k_grown' ?a_all_falls ?l_all_falls ?c_all_falls ?k_all_falls' ?a_l_told_falls ?l_l_told_falls ?c_l_told_falls ?k_l_told_falls' ?a_l_lowest ?l_l_lowest ?c_l_lowest ?k_l_lowest' ?a_l_counts ?l_l_counts ?c_l_counts ?k_l_counts' ?a_l_flows ?l_l_flows ?c_l_flows ?k_l_flows' ?a_l_is_fall ?l_l_is_fall ?c_l_is_fall ?k_l_is_fall' ?a_l_ints ?l_l_ints ?c_l_ints ?k_l_ints' ?a_law ?l_law ?c_law ?k_law' ?n_Apart ?n_NoTie ?n_RillError ?n_TooMany ?t_k_Apart ?t_bs_Apart ?t_ty_Apart ?t_is_Apart ?t_hd_Apart ?t_sf_Apart ?t_k_NoTie ?t_bs_NoTie ?t_ty_NoTie ?t_is_NoTie ?t_hd_NoTie ?t_sf_NoTie ?t_k_RillError ?t_bs_RillError ?t_ty_RillError ?t_is_RillError ?t_hd_RillError ?t_sf_RillError ?t_k_TooMany ?t_bs_TooMany ?t_ty_TooMany ?t_is_TooMany ?t_hd_TooMany ?t_sf_TooMany ?t_ga_TooMany ?t_gg_TooMany ?t_gc_TooMany ?t_mo_TooMany ?t_x_TooMany ?t_su_TooMany_Apart ?t_su_TooMany_NoTie ?t_su_TooMany_RillError ?t_su_TooMany_TooMany ?t_sv_TooMany ?t_sp0 ?t_tk0 ?z_ValueError ?z_all ?z_bool ?z_enumerate ?z_int ?z_isinstance ?z_len ?z_list ?z_max ?z_min ?z_range ?z_set ?z_sorted ?z_tuple ?y_MOST_FALLS
    (case a_l_pool => k_is)
    (case l_l_pool => k_is)
    (case c_l_pool => k_is)
    (case k_l_pool' => k_is)
    (case a_l_next => k_is)
    (case l_l_next => k_is)
    (case c_l_next => k_is)
    (case k_l_next' => k_is)
    (case a_l_shuffled => k_is)
    (case l_l_shuffled => k_is)
    (case c_l_shuffled => k_is)
    (case k_l_shuffled' => k_is)
    (case a_l_pair => k_is)
    (case l_l_pair => k_is)
    (case c_l_pair => k_is)
    (case k_l_pair' => k_is)
    (case a_l_web => k_is)
    (case l_l_web => k_is)
    (case c_l_web => k_is)
    (case k_l_web' => k_is)
    (case a_led_on => k_is)
    (case l_led_on => k_is)
    (case c_led_on => k_is)
    (case k_led_on' => k_is)
    (case a_grown => k_is)
    (case l_grown => k_is)
    (case c_grown => k_is)
    (case k_grown' => k_is)
    (case a_all_falls => k_is)
    (case l_all_falls => k_is)
    (case c_all_falls => k_is)
    (case k_all_falls' => k_is)
    (case a_l_told_falls => k_is)
    (case l_l_told_falls => k_is)
    (case c_l_told_falls => k_is)
    (case k_l_told_falls' => k_is)
    (case a_l_lowest => k_is)
    (case l_l_lowest => k_is)
    (case c_l_lowest => k_is)
    (case k_l_lowest' => k_is)
    (case a_l_counts => k_is)
    (case l_l_counts => k_is)
    (case c_l_counts => k_is)
    (case k_l_counts' => k_is)
    (case a_l_flows => k_is)
    (case l_l_flows => k_is)
    (case c_l_flows => k_is)
    (case k_l_flows' => k_is)
    (case a_l_is_fall => k_is)
    (case l_l_is_fall => k_is)
    (case c_l_is_fall => k_is)
    (case k_l_is_fall' => k_is)
    (case a_l_ints => k_is)
    (case l_l_ints => k_is)
    (case c_l_ints => k_is)
    (case k_l_ints' => k_is)
    (case a_law => k_is)
    (case l_law => k_is)
    (case c_law => k_is)
    (case k_law' => k_is)
    (case n_Apart => k_is)
    (case n_NoTie => k_is)
    (case n_RillError => k_is)
    (case n_TooMany => k_is)
    (case t_k_Apart => first | rfl | k_is)
    (case t_bs_Apart => first | rfl | k_is)
    (case t_ty_Apart => first | rfl | k_is)
    (case t_is_Apart => first | rfl | k_is)
    (case t_hd_Apart => first | rfl | k_is)
    (case t_sf_Apart => first | rfl | k_is)
    (case t_k_NoTie => first | rfl | k_is)
    (case t_bs_NoTie => first | rfl | k_is)
    (case t_ty_NoTie => first | rfl | k_is)
    (case t_is_NoTie => first | rfl | k_is)
    (case t_hd_NoTie => first | rfl | k_is)
    (case t_sf_NoTie => first | rfl | k_is)
    (case t_k_RillError => first | rfl | k_is)
    (case t_bs_RillError => first | rfl | k_is)
    (case t_ty_RillError => first | rfl | k_is)
    (case t_is_RillError => first | rfl | k_is)
    (case t_hd_RillError => first | rfl | k_is)
    (case t_sf_RillError => first | rfl | k_is)
    (case t_k_TooMany => first | rfl | k_is)
    (case t_bs_TooMany => first | rfl | k_is)
    (case t_ty_TooMany => first | rfl | k_is)
    (case t_is_TooMany => first | rfl | k_is)
    (case t_hd_TooMany => first | rfl | k_is)
    (case t_sf_TooMany => first | rfl | k_is)
    (case t_ga_TooMany => first | rfl | k_is)
    (case t_gg_TooMany => first | rfl | k_is)
    (case t_gc_TooMany => first | rfl | k_is)
    (case t_mo_TooMany => first | rfl | k_is)
    (case t_x_TooMany => k_exc)
    (case t_su_TooMany_Apart => first | rfl | k_is)
    (case t_su_TooMany_NoTie => first | rfl | k_is)
    (case t_su_TooMany_RillError => first | rfl | k_is)
    (case t_su_TooMany_TooMany => first | rfl | k_is)
    (case t_sv_TooMany => first | rfl | k_is)
    (case t_sp0 => first | rfl | k_is)
    (case t_tk0 => first | rfl | k_is)
    (case z_ValueError => k_is)
    (case z_all => k_is)
    (case z_bool => k_is)
    (case z_enumerate => k_is)
    (case z_int => k_is)
    (case z_isinstance => k_is)
    (case z_len => k_is)
    (case z_list => k_is)
    (case z_max => k_is)
    (case z_min => k_is)
    (case z_range => k_is)
    (case z_set => k_is)
    (case z_sorted => k_is)
    (case z_tuple => k_is)
    (case y_MOST_FALLS => k_is)

