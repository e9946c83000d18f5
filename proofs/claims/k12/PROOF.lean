import PyProof.Rows.All
import HandS.ForMost
import HandS.Zip
import HandS.Rev
import HandS.Deep
import HandS.TupAny
import HandS.SortInts
import HandS.Style
import HandS.IsInst
import HandS.Conv
import HandS.Strs
import HandS.Dict
import HandS.SortRule
import KE.DatumOrd
import HandS.DictTup
import KE.KDictSum
import HandS.Iter
import HandS.TupLen
import HandS.WordsDict
import HandS.SetFor
import HandS.Remove
import KE.GoesMore
import KE.KDictZip
import PySem.Challenge.RW_rillturn_k12_what_are_no_hues
set_option Elab.async false
set_option linter.all false
namespace G7
open PySem

abbrev D := PyData
abbrev En := List (Option D)
abbrev WE := En → (D → En → Prop) → Prop
abbrev WT := En → (Bool → En → Prop) → Prop
abbrev WA := En → (List D → En → Prop) → Prop
abbrev WI := En → (List D → En → Prop) → Prop
structure WD where
  nx : En → Prop
  rt : D → En → Prop
  bk : En → Prop := fun _ => False
  ct : En → Prop := fun _ => False
abbrev WS := WD → En → Prop
abbrev WG := D → En → Option En
/-- what a def is asked: arguments, what is wanted of the answer -/
abbrev FS := List D → (D → Prop) → Prop

def lim : Nat := 1000000

def wVar (i : Nat) : WE := fun e Q => ∃ d, e[i]? = some (some d) ∧ Q d e
def wC (d : D) : WE := fun e Q => Q d e
def wOp1 (f : D → Option D) (a : WE) : WE := fun e Q => a e fun x e1 => ∃ z, f x = some z ∧ Q z e1
def wOp2 (f : D → D → Option D) (a b : WE) : WE := fun e Q => a e fun x e1 => b e1 fun y e2 => ∃ z, f x y = some z ∧ Q z e2
def waNil : WA := fun e Q => Q [] e
def waCons (a : WE) (r : WA) : WA := fun e Q => a e fun x e1 => r e1 fun xs e2 => Q (x :: xs) e2
def wList (a : WA) : WE := fun e Q => a e fun xs e1 => xs.length ≤ lim ∧ Q (.list xs) e1
def wTup (a : WA) : WE := fun e Q => a e fun xs e1 => xs.length ≤ lim ∧ Q (.tuple xs) e1
def wCall (S : FS) (a : WA) : WE := fun e Q => a e fun xs e1 => S xs fun r => Q r e1
def wBlt (f : List D → Option D) (a : WA) : WE := fun e Q => a e fun xs e1 => ∃ z, f xs = some z ∧ Q z e1
/-- a slice: lower and upper ends may lie open -/
abbrev WO := En → (Option Int → En → Prop) → Prop
def woN : WO := fun e Q => Q none e
def woS (a : WE) : WO := fun e Q => a e fun x e1 => ∃ i, x = .int i ∧ Q (some i) e1
def wSl (f : D → Option Int → Option Int → Option D) (a : WE) (lo hi : WO) : WE := fun e Q => a e fun x e1 => lo e1 fun l e2 => hi e2 fun h e3 => ∃ z, f x l h = some z ∧ Q z e3
def tVal (a : WE) : WT := fun e Q => a e fun x e1 => ∃ b, x = .bool b ∧ Q b e1
def tAnd (s t : WT) : WT := fun e Q => s e fun b e1 => if b = true then t e1 Q else Q false e1
def tOr (s t : WT) : WT := fun e Q => s e fun b e1 => if b = true then Q true e1 else t e1 Q
def tNot (s : WT) : WT := fun e Q => s e fun b e1 => Q (!b) e1
def wAnd (a b : WE) : WE := fun e Q => a e fun x e1 => ∃ c, x = .bool c ∧ if c = true then b e1 Q else Q (.bool false) e1
def wOr (a b : WE) : WE := fun e Q => a e fun x e1 => ∃ c, x = .bool c ∧ if c = true then Q (.bool true) e1 else b e1 Q
def wNot (a : WE) : WE := fun e Q => a e fun x e1 => ∃ c, x = .bool c ∧ Q (.bool (!c)) e1
def wIfE (t : WT) (a b : WE) : WE := fun e Q => t e fun c e1 => if c = true then a e1 Q else b e1 Q
/-- a op1 b op2 c -/
def wChain (f g : D → D → Option D) (a b c : WE) : WE := fun e Q => a e fun x e1 => b e1 fun y e2 => ∃ k, f x y = some (.bool k) ∧
  if k = true then c e2 fun z e3 => ∃ r, g y z = some r ∧ Q r e3 else Q (.bool false) e2
def wNil : WS := fun W e => W.nx e
def wSeq (a b : WS) : WS := fun W e => a { W with nx := fun e1 => b W e1 } e
def wAsg (i : Nat) (a : WE) : WS := fun W e => a e fun x e1 => W.nx (e1.set i (some x))
def wAsgG (g : WG) (a : WE) : WS := fun W e => a e fun x e1 => ∃ e2, g x e1 = some e2 ∧ W.nx e2
def wExpr (a : WE) : WS := fun W e => a e fun _ e1 => W.nx e1
def wRet (a : WE) : WS := fun W e => a e W.rt
def wRetN : WS := fun W e => W.rt .none e
def wIf (t : WT) (a b : WS) : WS := fun W e => t e fun c e1 => if c = true then a W e1 else b W e1
def wNever : WS := fun _ _ => False
def wBreak : WS := fun W e => W.bk e
def wCont : WS := fun W e => W.ct e
def forL (g : WG) (b : WS) (W : WD) : List D → En → Prop
  | [], e => W.nx e
  | x :: xs, e => ∃ e1, g x e = some e1 ∧ b { W with nx := forL g b W xs, ct := forL g b W xs, bk := W.nx } e1
def wFor (it : WI) (g : WG) (b : WS) : WS := fun W e => it e fun xs e1 => forL g b W xs e1
def whileN (t : WT) (b : WS) (W : WD) : Nat → En → Prop
  | 0, _ => False
  | n + 1, e => t e fun c e1 => if c = true then b { W with nx := whileN t b W n, ct := whileN t b W n, bk := W.nx } e1 else W.nx e1
def wWhile (t : WT) (b : WS) : WS := fun W e => ∃ n, whileN t b W n e
def gN (i : Nat) : WG := fun x e => some (e.set i (some x))
def gAll : List WG → List D → En → Option En
  | [], [], e => some e
  | g :: gs, x :: xs, e => (g x e).bind fun e1 => gAll gs xs e1
  | _, _, _ => none
def gT (gs : List WG) : WG := fun x e => match x with
  | .tuple xs => gAll gs xs e
  | _ => none
def wp (e : En) : List Nat → En
  | [] => e
  | v :: vs => (wp e vs).set v none
def back (e e2 : En) : List Nat → En
  | [] => e2
  | v :: vs => (back e e2 vs).set v ((e[v]?).getD none)
def compL (g : WG) (vs : List Nat) (t : WT) (b : WE) (Q : List D → En → Prop) : List D → List D → En → Prop
  | [], acc, e => Q acc e
  | x :: xs, acc, e => ∃ e1, g x e = some e1 ∧ t e1 fun c e2 => if c = true then b e2 fun y e3 => compL g vs t b Q xs (acc ++ [y]) (wp e3 vs) else compL g vs t b Q xs acc (wp e2 vs)
def wComp (it : WI) (g : WG) (vs : List Nat) (t : WT) (b : WE) : WE := fun e Q => it e fun xs e1 => compL g vs t b (fun acc e2 => Q (.list acc) (back e1 e2 vs)) xs [] (wp e1 vs)
def tYes : WT := fun e Q => Q true e
def seqD : D → Option (List D)
  | .list xs => some xs
  | .tuple xs => some xs
  | .dict [(.none, .tuple xs)] => some xs
  | _ => none
def rangeD (lo hi : Int) : List D := (List.range (hi - lo).toNat).map fun (i : Nat) => .int (lo + (i : Int))
def wiSeq (a : WE) : WI := fun e Q => a e fun x e1 => ∃ xs, seqD x = some xs ∧ Q xs e1
def wiRg1 (a : WE) : WI := fun e Q => a e fun x e1 => ∃ n : Int, x = .int n ∧ -(lim : Int) ≤ n ∧ n ≤ (lim : Int) ∧ Q (rangeD 0 n) e1
def wiRg2 (a b : WE) : WI := fun e Q => a e fun x e1 => b e1 fun y e2 => ∃ m n : Int, x = .int m ∧ y = .int n ∧ -(lim : Int) ≤ m ∧ m ≤ lim ∧ -(lim : Int) ≤ n ∧ n ≤ (lim : Int) ∧ Q (rangeD m n) e2
def zipD (xs ys : List D) : List D := List.zipWith (fun x y => .tuple [x, y]) xs ys
def enumD (xs : List D) : List D := zipD (rangeD 0 xs.length) xs
def wiEnum (a : WE) : WI := fun e Q => a e fun x e1 => ∃ xs, seqD x = some xs ∧ Q (enumD xs) e1
def wiRev (a : WE) : WI := fun e Q => a e fun x e1 => ∃ xs, seqD x = some xs ∧ Q xs.reverse e1
def ixN (n : Nat) (i : Int) : Option Nat := if 0 ≤ i then (if i < n then some i.toNat else none) else if -(n : Int) ≤ i then some (i + n).toNat else none
/-- slot i holds a list: f tells its new content and the value of the expression -/
def wMut (i : Nat) (f : List D → List D → Option (D × List D)) (a : WA) : WE := fun e Q => (∃ xs, e[i]? = some (some (.list xs))) ∧ a e fun ys e1 => ∃ xs z xs', e1[i]? = some (some (.list xs)) ∧ f xs ys = some (z, xs') ∧ Q z (e1.set i (some (.list xs')))

/-- slot i holds a list, an item of which is stored -/
def wSetIx (i : Nat) (v ix : WE) : WS := fun W e => v e fun y e1 => (∃ xs, e1[i]? = some (some (.list xs))) ∧ ix e1 fun j e2 => ∃ k xs m, j = .int k ∧ e2[i]? = some (some (.list xs)) ∧ ixN xs.length k = some m ∧ W.nx (e2.set i (some (.list (xs.set m y))))

def okMul (i j : Int) : Bool := decide ((-(2 ^ 64) < i ∧ i < 2 ^ 64) ∨ (-(2 ^ 64) < j ∧ j < 2 ^ 64))
def addD : D → D → Option D
  | .int a, .int b => some (.int (a + b))
  | .list a, .list b => if a.length + b.length ≤ lim then some (.list (a ++ b)) else none
  | .tuple a, .tuple b => if a.length + b.length ≤ lim then some (.tuple (a ++ b)) else none
  | _, _ => none
def subD : D → D → Option D
  | .int a, .int b => some (.int (a - b))
  | _, _ => none
def fdivD : D → D → Option D
  | .int a, .int b => if 0 < b ∧ b < 1073741824 then some (.int (a / b)) else none
  | _, _ => none
def modD : D → D → Option D
  | .int a, .int b => if 0 < b then some (.int (a % b)) else none
  | _, _ => none
def powD : D → D → Option D
  | .int a, .int b => if 0 ≤ b ∧ b ≤ 1000000 ∧ a.natAbs < 2 ^ 64 then some (.int (a ^ b.toNat)) else none
  | _, _ => none
def negD : D → Option D
  | .int a => some (.int (-a))
  | _ => none
def icmp (p : Int → Int → Bool) : D → D → Option D
  | .int a, .int b => some (.bool (p a b))
  | _, _ => none
def leD := icmp fun a b => decide (a ≤ b)
def gtD := icmp fun a b => decide (b < a)
def geD := icmp fun a b => decide (b ≤ a)
def intsD : List D → Option (List Int)
  | [] => some []
  | .int i :: r => (intsD r).map (i :: ·)
  | _ => none
/-- < of ints, of tuples of ints -/
def ltD : D → D → Option D
  | .int a, .int b => some (.bool (decide (a < b)))
  | .tuple a, .tuple b => (intsD a).bind fun xs => (intsD b).map fun ys => .bool (HT.lexLt xs ys)
  | _, _ => none
/-- data without dicts, texts short: may be compared -/
def okD (d : D) : Bool := SeqAt.shaped d
def eqD (x y : D) : Option D := if okD x = true ∧ okD y = true then some (.bool (PyData.eqv x y)) else none
def neD (x y : D) : Option D := if okD x = true ∧ okD y = true then some (.bool (!PyData.eqv x y)) else none
def inD (x y : D) : Option D := match seqD y with
  | some ys => if okD x = true ∧ okD y = true then some (.bool (ys.any fun z => PyData.eqv z x)) else none
  | none => none
def notInD (x y : D) : Option D := match seqD y with
  | some ys => if okD x = true ∧ okD y = true then some (.bool (!(ys.any fun z => PyData.eqv z x))) else none
  | none => none
def isNoneD : D → Option D
  | .none => some (.bool true)
  | _ => some (.bool false)
def notNoneD : D → Option D
  | .none => some (.bool false)
  | _ => some (.bool true)
def ixD : D → D → Option D
  | .list xs, .int i => (ixN xs.length i).bind fun j => xs[j]?
  | .tuple xs, .int i => (ixN xs.length i).bind fun j => xs[j]?
  | .dict [(.none, .tuple xs)], .int i => (ixN xs.length i).bind fun j => xs[j]?
  | _, _ => none
def cut (xs : List D) (lo hi : Option Int) : List D := (xs.drop (HT.sIx xs.length 0 lo)).take (HT.sIx xs.length xs.length hi - HT.sIx xs.length 0 lo)
def slD : D → Option Int → Option Int → Option D
  | .list xs, lo, hi => some (.list (cut xs lo hi))
  | .tuple xs, lo, hi => some (.tuple (cut xs lo hi))
  | .dict [(.none, .tuple xs)], lo, hi => some (if HT.sIx xs.length 0 lo = 0 ∧ HT.sIx xs.length xs.length hi = xs.length then .dict [(.none, .tuple xs)] else .tuple (cut xs lo hi))
  | _, _, _ => none
def lenD : List D → Option D
  | [.list xs] => some (.int xs.length)
  | [.tuple xs] => some (.int xs.length)
  | [.dict [(.none, .tuple xs)]] => some (.int xs.length)
  | _ => none
def tupD : List D → Option D
  | [.list xs] => some (.tuple xs)
  | [.tuple xs] => some (.tuple xs)
  | [.dict [(.none, .tuple xs)]] => some (.dict [(.none, .tuple xs)])
  | _ => none
def lstD : List D → Option D
  | [.list xs] => some (.list xs)
  | [.tuple xs] => some (.list xs)
  | [.dict [(.none, .tuple xs)]] => some (.list xs)
  | _ => none
def max2D : List D → Option D
  | [.int a, .int b] => some (.int (if b > a then b else a))
  | _ => none
def min2D : List D → Option D
  | [.int a, .int b] => some (.int (if b < a then b else a))
  | _ => none
def intD : List D → Option D
  | [.int a] => some (.int a)
  | [.bool b] => some (.int (if b then 1 else 0))
  | _ => none
def boolsD : List D → Option (List Bool)
  | [] => some []
  | .bool i :: r => (boolsD r).map (i :: ·)
  | _ => none
def allD : List D → Option D
  | [.list xs] => (boolsD xs).map fun bs => .bool (bs.all id)
  | _ => none
def anyD : List D → Option D
  | [.list xs] => (boolsD xs).map fun bs => .bool (bs.any id)
  | _ => none
def appendF (xs ys : List D) : Option (D × List D) := match ys with
  | [y] => if xs.length < lim then some (.none, xs ++ [y]) else none
  | _ => none
def popAtF (xs ys : List D) : Option (D × List D) := match ys with
  | [.int i] => (ixN xs.length i).bind fun j => (xs[j]?).map fun y => (y, xs.eraseIdx j)
  | _ => none
def extendF (xs ys : List D) : Option (D × List D) := match ys with
  | [.list zs] => if xs.length + zs.length ≤ lim then some (.none, xs ++ zs) else none
  | _ => none
end G7

set_option maxRecDepth 100000
namespace G7
open PySem PySem.Spec PyProof.Rows L2

abbrev St := L2.St
inductive SK where | x (a : Addr) | v | r | o | q | p | f
  deriving DecidableEq
inductive RK where | fz | rd | nw | ow (i : Nat) | pl | np
  deriving DecidableEq
def RK.rdable : RK → Bool
  | .pl => false
  | .np => false
  | _ => true
structure Rg where
  O : Addr → Prop
  P : Addr → Prop
  I : Addr → Prop
  al : Nat → Option Addr
def Rg.own (g : Rg) (a : Addr) : Prop := g.O a ∨ ∃ i, g.al i = some a

/-- a tuple of the written part -/
def KTup (K : PySem.W.Frag) (a : Addr) (xs : List V) : Prop :=
  ∃ (o : Obj) (its : Array Value) (n : Nat), K.lookup a = some o ∧ o.cls = .type "tuple" ∧ o.data = .seq its n ∧ its.size ≤ sizeLine ∧ Vals xs its.toList
def kD : Key → D
  | .inl i => .int i
  | .inr x => .str x
def tD (k : List Key) : D := .tuple (k.map kD)
/-- a tuple of which the whole object is known (its methods may be called) -/
def xtD (ds : List D) : D := .dict [(.none, .tuple ds)]
/-- whether an empty tuple may be a key; if not, it may be told of a frozen one -/
def tupX : Bool := false
/-- a tuple that is no key may be told of a frozen one -/
def frzOk0 : List D → Bool
  | [] => !tupX
  | .tuple _ :: _ => true
  | _ => false
/-- whether new tuples of so many items are laid with their objects (they are no keys then) -/
def tupF (_ : Nat) : Bool := false
/-- how many items a tuple may have that is a key -/
def keyLen (_ : Nat) : Bool := true
def frzOk (ds : List D) : Bool := tupF ds.length || frzOk0 ds
def plOk (ds : List D) : Bool := !tupF ds.length
theorem plOkF {ds : List D} (hF : tupF ds.length = false) : plOk ds = true := by
  unfold plOk
  rw [hF]; rfl
def RdT (H : Hp) (a : Addr) (u : HO) (ds : List D) : Prop := (plOk ds = true ∧ H a = some u) ∨ (frzOk ds = true ∧ ∃ o, H a = some (.frz o u) ∧ o.dict = none)
/-- a new tuple as it is laid -/
def MkT (o : HO) (xs : List V) : Prop := if tupF xs.length = true then ∃ ob : Obj, ob.dict = none ∧ o = .frz ob (.tup xs) else o = .tup xs
theorem MkT.rdT {o : HO} {xs : List V} {H : Hp} {a : Addr} {ds : List D} (m : MkT o xs) (hl : xs.length = ds.length) (e : H a = some o) : RdT H a (.tup xs) ds := by
  unfold MkT at m
  split at m
  · next h =>
    obtain ⟨ob, hd, rfl⟩ := m
    exact .inr ⟨by unfold frzOk; rw [← hl, h]; rfl, ob, e, hd⟩
  · next h =>
    subst m
    exact .inl ⟨plOkF (by rw [← hl]; simpa using h), e⟩
theorem MkT.nl {o : HO} {xs ts : List V} (m : MkT o xs) : o ≠ .lst ts := fun e => by
  unfold MkT at m
  split at m
  · obtain ⟨ob, _, rfl⟩ := m; cases e
  · subst m; cases e
section
variable {X : Cx}
/-- a tuple laid -/
theorem mk_laid {pins : List (Addr × Obj)} {σ : St} {H : Hp} {s : Shared} {xs : List V} {its : List Value} {ob : Obj} (I : Inv X pins σ H s) (r : Vals xs its) (z : xs.length ≤ sizeLine) (ho : ob = { cls := .type "tuple", data := .seq its.toArray }) :
    ∃ o, MkT o xs ∧ Inv X pins σ (upd H s.heap.objs.size o) { s with heap := s.heap.push ob } := by
  subst ho
  have new : ∀ H' : Hp, ObjOk X.prog X.w H' (s.heap.push { cls := .type "tuple", data := .seq its.toArray }) s.heap.objs.size (.tup xs) := fun _ => ⟨z, its, r, ⟨_, Heap.get?_push_size _ rfl, rfl, _, rfl⟩⟩
  by_cases hF : tupF xs.length = true
  · refine ⟨.frz { cls := .type "tuple", data := .seq its.toArray } (.tup xs), ?_, I.laid (t' := s.toks) (fun _ _ q => Heap.get?_push_of_some _ q) (Nat.le_refl _) ⟨Heap.get?_push_size _ rfl, new _⟩⟩
    unfold MkT
    rw [if_pos hF]
    exact ⟨_, rfl, rfl⟩
  · refine ⟨.tup xs, ?_, I.laid (t' := s.toks) (fun _ _ q => Heap.get?_push_of_some _ q) (Nat.le_refl _) (new _)⟩
    unfold MkT
    rw [if_neg hF]
end

section
variable (K : PySem.W.Frag) (H : Hp) (S : Addr → Prop)
mutual
inductive Rep (K : PySem.W.Frag) (H : Hp) (S : Addr → Prop) : V → D → Prop
  | non : Rep K H S .non .none
  | bl (b : Bool) : Rep K H S (.bl b) (.bool b)
  | int (i : Int) : Rep K H S (.int i) (.int i)
  | str (x : Str) : Rep K H S (.str x) (.str x)
  | lst {a : Addr} {xs : List V} {ds : List D} : ¬ S a → H a = some (.lst xs) → xs.length ≤ sizeLine → RepAll K H S xs ds → Rep K H S (.ref a) (.list ds)
  | tup {a : Addr} {xs : List V} {ds : List D} : ¬ S a → RdT H a (.tup xs) ds → xs.length ≤ sizeLine → RepAll K H S xs ds → Rep K H S (.ref a) (.tuple ds)
  | dK {a : Addr} {kvs : List (Key × V)} {ds : List D} : ¬ S a → H a = some (.dK kvs) → RepAll K H S (kvs.map (·.2)) ds → Rep K H S (.ref a) (.dict ((kvs.map fun p => kD p.1).zip ds))
  | dT {a : Addr} {kvs : List (List Key × V)} {ds : List D} : ¬ S a → H a = some (.dT kvs) → RepAll K H S (kvs.map (·.2)) ds → Rep K H S (.ref a) (.dict ((.none, .none) :: (kvs.map fun p => tD p.1).zip ds))
  | xt {a : Addr} {o : Obj} {xs : List V} {ds : List D} : ¬ S a → H a = some (.frz o (.tup xs)) → o.dict = none → xs.length ≤ sizeLine → RepAll K H S xs ds → Rep K H S (.ref a) (.dict [(.none, .tuple ds)])
  | kt {a : Addr} {xs : List V} {ds : List D} : ¬ S a → H a = some (.tup xs) → xs.length ≤ sizeLine → RepAll K H S xs ds → Rep K H S (.ref a) (.dict [(.bool true, .tuple ds)])
inductive RepAll (K : PySem.W.Frag) (H : Hp) (S : Addr → Prop) : List V → List D → Prop
  | nil : RepAll K H S [] []
  | cons {v : V} {vs : List V} {d : D} {ds : List D} : Rep K H S v d → RepAll K H S vs ds → RepAll K H S (v :: vs) (d :: ds)
end
end

section
variable {K : PySem.W.Frag} {H H' : Hp} {S S' : Addr → Prop}
theorem rd_keep {a : Addr} {u : HO} (k : ∀ o, H a = some o → H' a = some o) (h : Rd H a u) : Rd H' a u := by
  rcases h with h | ⟨o, h⟩
  · exact .inl (k _ h)
  · exact .inr ⟨o, k _ h⟩
theorem rdT_keep {a : Addr} {u : HO} {ds : List D} (k : ∀ o, H a = some o → H' a = some o) (h : RdT H a u ds) : RdT H' a u ds := by
  rcases h with ⟨x, h⟩ | ⟨x, o, h, d⟩
  · exact .inl ⟨x, k _ h⟩
  · exact .inr ⟨x, o, k _ h, d⟩
theorem rdT_rd {a : Addr} {u : HO} {ds : List D} (h : RdT H a u ds) : Rd H a u := h.elim (fun q => .inl q.2) fun ⟨_, o, q, _⟩ => .inr ⟨o, q⟩
theorem rd_tracked {a : Addr} {u : HO} (h : Rd H a u) : H a ≠ none := by
  rcases h with h | ⟨o, h⟩ <;> rw [h] <;> simp
mutual
/-- what is kept off S stays told; S' may be wider by what was not there -/
theorem Rep.keep (k : ∀ a o, ¬ S a → H a = some o → H' a = some o) (hs : ∀ a, S' a → S a ∨ H a = none) : ∀ {d : D} {v : V}, Rep K H S v d → Rep K H' S' v d
  | _, _, .non => .non
  | _, _, .bl b => .bl b
  | _, _, .int i => .int i
  | _, _, .str x => .str x
  | _, _, .lst n r z al => .lst (fun q => (hs _ q).elim n fun e => by rw [r] at e; cases e) (k _ _ n r) z (al.keep k hs)
  | _, _, .tup n r z al => .tup (fun q => (hs _ q).elim n fun e => rd_tracked (rdT_rd r) e) (rdT_keep (fun o e => k _ o n e) r) z (al.keep k hs)
  | _, _, .dK n r al => .dK (fun q => (hs _ q).elim n fun e => by rw [r] at e; cases e) (k _ _ n r) (al.keep k hs)
  | _, _, .dT n r al => .dT (fun q => (hs _ q).elim n fun e => by rw [r] at e; cases e) (k _ _ n r) (al.keep k hs)
  | _, _, .xt n r e z al => .xt (fun q => (hs _ q).elim n fun e => by rw [r] at e; cases e) (k _ _ n r) e z (al.keep k hs)
  | _, _, .kt n r z al => .kt (fun q => (hs _ q).elim n fun e => by rw [r] at e; cases e) (k _ _ n r) z (al.keep k hs)
theorem RepAll.keep (k : ∀ a o, ¬ S a → H a = some o → H' a = some o) (hs : ∀ a, S' a → S a ∨ H a = none) : ∀ {ds : List D} {vs : List V}, RepAll K H S vs ds → RepAll K H' S' vs ds
  | _, _, .nil => .nil
  | _, _, .cons r t => .cons (r.keep k hs) (t.keep k hs)
end
theorem RepAll.length : ∀ {vs : List V} {ds : List D}, RepAll K H S vs ds → vs.length = ds.length
  | _, _, .nil => rfl
  | _, _, .cons _ t => by simp [RepAll.length t]
theorem RepAll.get : ∀ {vs : List V} {ds : List D} {i : Nat} {d : D}, RepAll K H S vs ds → ds[i]? = some d → ∃ v, vs[i]? = some v ∧ Rep K H S v d
  | _, _, _, _, .nil, e => by simp at e
  | _, _, 0, _, .cons r _, e => by simp at e; subst e; exact ⟨_, rfl, r⟩
  | _, _, i + 1, d, .cons _ t, e => by
    obtain ⟨u, h1, h2⟩ := RepAll.get (i := i) (d := d) t (by simpa using e)
    exact ⟨u, by simpa using h1, h2⟩
theorem RepAll.getV : ∀ {vs : List V} {ds : List D} {i : Nat} {v : V}, RepAll K H S vs ds → vs[i]? = some v → ∃ d, ds[i]? = some d ∧ Rep K H S v d
  | _, _, _, _, .nil, e => by simp at e
  | _, _, 0, _, .cons r _, e => by simp at e; subst e; exact ⟨_, rfl, r⟩
  | _, _, i + 1, d, .cons _ t, e => by
    obtain ⟨u, h1, h2⟩ := RepAll.getV (i := i) (v := d) t (by simpa using e)
    exact ⟨u, by simpa using h1, h2⟩
theorem RepAll.append : ∀ {vs ws : List V} {ds es : List D}, RepAll K H S vs ds → RepAll K H S ws es → RepAll K H S (vs ++ ws) (ds ++ es)
  | _, _, _, _, .nil, s => s
  | _, _, _, _, .cons r t, s => .cons r (RepAll.append t s)
theorem RepAll.take : ∀ {vs : List V} {ds : List D} (n : Nat), RepAll K H S vs ds → RepAll K H S (vs.take n) (ds.take n)
  | _, _, 0, _ => by simp; exact .nil
  | _, _, _ + 1, .nil => .nil
  | _, _, n + 1, .cons r t => .cons r (RepAll.take n t)
theorem RepAll.drop : ∀ {vs : List V} {ds : List D} (n : Nat), RepAll K H S vs ds → RepAll K H S (vs.drop n) (ds.drop n)
  | _, _, 0, h => h
  | _, _, _ + 1, .nil => .nil
  | _, _, n + 1, .cons _ t => RepAll.drop n t
theorem RepAll.reverse : ∀ {vs : List V} {ds : List D}, RepAll K H S vs ds → RepAll K H S vs.reverse ds.reverse
  | _, _, .nil => .nil
  | _, _, .cons r t => by simp only [List.reverse_cons]; exact (RepAll.reverse t).append (.cons r .nil)
theorem RepAll.eraseIdx : ∀ {vs : List V} {ds : List D} (n : Nat), RepAll K H S vs ds → RepAll K H S (vs.eraseIdx n) (ds.eraseIdx n)
  | _, _, _, .nil => .nil
  | _, _, 0, .cons _ t => t
  | _, _, n + 1, .cons r t => .cons r (RepAll.eraseIdx n t)
theorem RepAll.set {v : V} {d : D} (r : Rep K H S v d) : ∀ {vs : List V} {ds : List D} (n : Nat), RepAll K H S vs ds → RepAll K H S (vs.set n v) (ds.set n d)
  | _, _, _, .nil => .nil
  | _, _, 0, .cons _ t => .cons r t
  | _, _, n + 1, .cons q t => .cons q (RepAll.set r n t)
theorem RepAll.rep {vs : List V} {ds : List D} (h : RepAll K H S vs ds) : ∀ k : Nat, RepAll K H S (List.replicate k vs).flatten (List.replicate k ds).flatten
  | 0 => .nil
  | k + 1 => by simp only [List.replicate_succ, List.flatten_cons]; exact h.append (h.rep k)
theorem Rep.toInt {v : V} {i : Int} (r : Rep K H S v (.int i)) : v = .int i := by cases r; rfl
theorem Rep.toBl {v : V} {i : Bool} (r : Rep K H S v (.bool i)) : v = .bl i := by cases r; rfl
theorem Rep.toNon {v : V} (r : Rep K H S v .none) : v = .non := by cases r; rfl
theorem Rep.toTup {v : V} {ds : List D} (r : Rep K H S v (.tuple ds)) : ∃ a xs, v = .ref a ∧ ((¬ S a ∧ Rd H a (.tup xs)) ∨ KTup K a xs) ∧ xs.length ≤ sizeLine ∧ RepAll K H S xs ds := by
  cases r with | tup n r z al => exact ⟨_, _, rfl, .inl ⟨n, rdT_rd r⟩, z, al⟩
theorem Rep.toXt {v : V} {ds : List D} (r : Rep K H S v (xtD ds)) : ∃ a o xs, v = .ref a ∧ ¬ S a ∧ H a = some (.frz o (.tup xs)) ∧ o.dict = none ∧ xs.length ≤ sizeLine ∧ RepAll K H S xs ds := by
  unfold xtD at r
  generalize hd : PyData.dict [(.none, .tuple ds)] = d at r
  cases r with
  | xt n r e z al => cases hd; exact ⟨_, _, _, rfl, n, r, e, z, al⟩
  | @dK a kvs ds' n r al =>
    have := (PyData.dict.inj hd).symm
    cases kvs with
    | nil => simp at this
    | cons p kvs => cases ds' with
      | nil => simp at this
      | cons x ds' =>
        simp at this
        obtain ⟨⟨h1, _⟩, _⟩ := this
        cases hp : p.1 <;> rw [hp] at h1 <;> cases h1
  | dT n r al => cases hd
  | _ => cases hd
theorem sqT_of {a : Addr} {xs : List V} (h : (¬ S a ∧ Rd H a (.tup xs)) ∨ KTup K a xs) : SqT K H a xs := h.elim (fun q => .inl q.2) .inr
end

/-- a tuple, known whole or not -/
def tupOf : D → Option (List D)
  | .tuple xs => some xs
  | .dict [(.none, .tuple xs)] => some xs
  | _ => none
theorem tupOf_cases {d : D} {ds : List D} (h : tupOf d = some ds) : d = .tuple ds ∨ d = xtD ds := by
  unfold tupOf at h
  split at h
  · cases h; exact .inl rfl
  · cases h; exact .inr rfl
  · cases h
theorem Rep.toTupO {K : PySem.W.Frag} {H : Hp} {S : Addr → Prop} {v : V} {d : D} {ds : List D} (h : tupOf d = some ds) (r : Rep K H S v d) : ∃ a xs, v = .ref a ∧ ((¬ S a ∧ Rd H a (.tup xs)) ∨ KTup K a xs) ∧ xs.length ≤ sizeLine ∧ RepAll K H S xs ds := by
  rcases tupOf_cases h with rfl | rfl
  · exact r.toTup
  · obtain ⟨a, o, xs, rfl, n, e, _, z, al⟩ := r.toXt
    exact ⟨a, xs, rfl, .inl ⟨n, .inr ⟨o, e⟩⟩, z, al⟩
/-- a dict's data is no tuple's, but for one -/
theorem dict_xt (kvs : List (D × D)) : (∃ xs, kvs = [(.none, .tuple xs)]) ∨ ∀ xs, kvs ≠ [(.none, .tuple xs)] := by
  by_cases h : ∃ xs, kvs = [(.none, .tuple xs)]
  · exact .inl h
  · exact .inr fun xs e => h ⟨xs, e⟩
/-- at a stands a list, or a dict, that may be written -/
inductive Obj1 (K : PySem.W.Frag) (H : Hp) (S : Addr → Prop) (a : Addr) : D → Prop
  | lst {xs : List V} {ds : List D} : H a = some (.lst xs) → xs.length ≤ sizeLine → RepAll K H S xs ds → Obj1 K H S a (.list ds)
  | dK {kvs : List (Key × V)} {ds : List D} : H a = some (.dK kvs) → RepAll K H S (kvs.map (·.2)) ds → Obj1 K H S a (.dict ((kvs.map fun p => kD p.1).zip ds))
  | dT {kvs : List (List Key × V)} {ds : List D} : H a = some (.dT kvs) → RepAll K H S (kvs.map (·.2)) ds → Obj1 K H S a (.dict ((.none, .none) :: (kvs.map fun p => tD p.1).zip ds))
/-- .. that may be read -/
inductive ObjR (K : PySem.W.Frag) (H : Hp) (S : Addr → Prop) (a : Addr) : D → Prop
  | lst {xs : List V} {ds : List D} : Rd H a (.lst xs) → xs.length ≤ sizeLine → RepAll K H S xs ds → ObjR K H S a (.list ds)
  | dK {kvs : List (Key × V)} {ds : List D} : H a = some (.dK kvs) → RepAll K H S (kvs.map (·.2)) ds → ObjR K H S a (.dict ((kvs.map fun p => kD p.1).zip ds))
  | dT {kvs : List (List Key × V)} {ds : List D} : H a = some (.dT kvs) → RepAll K H S (kvs.map (·.2)) ds → ObjR K H S a (.dict ((.none, .none) :: (kvs.map fun p => tD p.1).zip ds))
section
variable {K : PySem.W.Frag} {H H' : Hp} {S S' : Addr → Prop} {a : Addr} {d : D}
theorem Obj1.r (h : Obj1 K H S a d) : ObjR K H S a d := by
  cases h with
  | lst e z al => exact .lst (.inl e) z al
  | dK e al => exact .dK e al
  | dT e al => exact .dT e al
theorem Obj1.tracked (h : Obj1 K H S a d) : H a ≠ none := by cases h <;> simp_all
theorem ObjR.tracked (h : ObjR K H S a d) : H a ≠ none := by
  cases h with
  | lst e z al => exact rd_tracked e
  | dK e al => simp [e]
  | dT e al => simp [e]
theorem Obj1.keep (h : Obj1 K H S a d) (e : ∀ o, H a = some o → H' a = some o) (k : ∀ a o, ¬ S a → H a = some o → H' a = some o) (hs : ∀ a, S' a → S a ∨ H a = none) : Obj1 K H' S' a d := by
  cases h with
  | lst q z al => exact .lst (e _ q) z (al.keep k hs)
  | dK q al => exact .dK (e _ q) (al.keep k hs)
  | dT q al => exact .dT (e _ q) (al.keep k hs)
theorem ObjR.keep (h : ObjR K H S a d) (e : ∀ o, H a = some o → H' a = some o) (k : ∀ a o, ¬ S a → H a = some o → H' a = some o) (hs : ∀ a, S' a → S a ∨ H a = none) : ObjR K H' S' a d := by
  cases h with
  | lst q z al => exact .lst (rd_keep e q) z (al.keep k hs)
  | dK q al => exact .dK (e _ q) (al.keep k hs)
  | dT q al => exact .dT (e _ q) (al.keep k hs)

/-- a thing that stands apart from S is told -/
theorem Obj1.rep (h : Obj1 K H S a d) (n : ¬ S a) : Rep K H S (.ref a) d := by
  cases h with
  | lst q z al => exact .lst n q z al
  | dK q al => exact .dK n q al
  | dT q al => exact .dT n q al
end
theorem ObjR.noXt {K : PySem.W.Frag} {H : Hp} {S : Addr → Prop} {a : Addr} {ds : List D} (r : ObjR K H S a (xtD ds)) : False := by
  unfold xtD at r
  generalize hd : PyData.dict [(.none, .tuple ds)] = d at r
  cases r with
  | lst => cases hd
  | @dK kvs ds' r al =>
    have := (PyData.dict.inj hd).symm
    cases kvs with
    | nil => simp at this
    | cons p kvs => cases ds' with
      | nil => simp at this
      | cons x ds' =>
        simp at this
        obtain ⟨⟨h1, _⟩, _⟩ := this
        cases hp : p.1 <;> rw [hp] at h1 <;> cases h1
  | dT r al => cases hd
/-- what may be read just now: told, or a list or dict that someone may write -/
def RdB (K : PySem.W.Frag) (H : Hp) (S : Addr → Prop) (v : V) (d : D) : Prop := Rep K H S v d ∨ ∃ a, v = .ref a ∧ ObjR K H S a d

def Pool (H : Hp) (a : Addr) : Prop := ∃ x y z : Int, H a = some (.lst [.int x, .int y, .int z])

/-- an answer of a kind; H0: the heap ahead of it -/
def Res (K : PySem.W.Frag) (g : Rg) (k : RK) (H0 H : Hp) (v : V) (d : D) : Prop := match k with
  | .fz => Rep K H g.own v d
  | .rd => Rep K H g.own v d ∨ ∃ a, v = .ref a ∧ ¬ g.P a ∧ g.I a ∧ ObjR K H g.own a d
  | .nw => ∃ p, v = .ref p ∧ H0 p = none ∧ g.O p ∧ ¬ g.P p ∧ Obj1 K H g.own p d
  | .ow i => ∃ a, v = .ref a ∧ g.al i = some a ∧ Obj1 K H g.own a d
  | .pl => ∃ a, v = .ref a ∧ g.P a ∧ d = .none
  | .np => ∃ p, v = .ref p ∧ H0 p = none ∧ g.O p ∧ ¬ g.P p ∧ Pool H p ∧ d = .none
def SlotK (K : PySem.W.Frag) (g : Rg) (H : Hp) (k : SK) (i : Nat) (v : V) (d : D) : Prop := match k with
  | .v => Rep K H g.own v d
  | .r => Rep K H g.own v d ∨ ∃ a, v = .ref a ∧ ¬ g.P a ∧ g.I a ∧ ObjR K H g.own a d
  | .o => ∃ a, v = .ref a ∧ g.al i = some a ∧ Obj1 K H g.own a d
  | .q => ∃ a, v = .ref a ∧ g.al i = some a ∧ Obj1 K H g.own a d
  | .p => ∃ a, v = .ref a ∧ g.P a ∧ d = .none
  | .f => (∃ a, v = .ref a ∧ g.al i = some a ∧ Obj1 K H g.own a d) ∨ ∃ d', d = .tuple [d'] ∧ Rep K H g.own v d'
  | .x a => v = .ref a
def kindOf (κ : List SK) (i : Nat) : SK := (κ[i]?).getD .v

/-- something stands there, no tuple -/
def Tk (H : Hp) (a : Addr) : Prop := H a ≠ none ∧ ∀ xs, H a ≠ some (.tup xs)
theorem Obj1.tk {K : PySem.W.Frag} {H : Hp} {S : Addr → Prop} {a : Addr} {d : D} (h : Obj1 K H S a d) : Tk H a := by cases h <;> simp_all [Tk]
theorem Pool.tk {H : Hp} {a : Addr} (h : Pool H a) : Tk H a := by obtain ⟨x, y, z, e⟩ := h; simp [Tk, e]
theorem Tk.of {H H' : Hp} {a : Addr} (h : Tk H a) (k : ∀ o, H a = some o → H' a = some o) : Tk H' a := by
  cases e : H a with
  | none => exact absurd e h.1
  | some o => exact ⟨by rw [k o e]; simp, fun xs z => h.2 xs (by rw [e]; rw [k o e] at z; exact z)⟩
structure Frm (K : PySem.W.Frag) (κ : List SK) (g : Rg) (env : En) (σ : St) (H : Hp) : Prop where
  ln : env.length = κ.length
  sl : σ.length = κ.length
  ev : ∀ i d, env[i]? = some (some d) → ∃ v, σ[i]? = some (some v) ∧ SlotK K g H (kindOf κ i) i v d
  inj : ∀ i j a, g.al i = some a → g.al j = some a → i = j
  alo' : ∀ i a, g.al i = some a → ¬ g.O a ∧ Tk H a
  ot' : ∀ a, g.O a → Tk H a
  il : ∀ a, g.I a → g.O a
  pl : ∀ a, g.P a → g.O a ∧ Pool H a

/-- an expression's step: M, the slots whose own things may have changed -/
structure EStep (M : List Nat) (g g' : Rg) (H H' : Hp) : Prop where
  al : g'.al = g.al
  P : g'.P = g.P
  I : g'.I = g.I
  up : ∀ a, g.O a → g'.O a
  dn : ∀ a, g'.O a → g.O a ∨ H a = none
  keep : ∀ b o, H b = some o → ¬ g.P b → (∀ i ∈ M, g.al i ≠ some b) → H' b = some o
  pool : ∀ b, g.P b → Pool H b → Pool H' b

/-- an expression of this reading -/
def cE (K : PySem.W.Frag) (κ : List SK) (M : List Nat) (k : RK) (w : WE) : TE := fun σ H Q => ∃ g env W, Frm K κ g env σ H ∧ w env W ∧
  ∀ v H' g' env' d, Frm K κ g' env' σ H' → EStep M g g' H H' → Res K g' k H H' v d → W d env' → Q v H'
def SE (X : Cx) (κ : List SK) (M : List Nat) (k : RK) (e : Expr) (w : WE) : Prop := PE X e (cE X.K κ M k w)
def cT (K : PySem.W.Frag) (κ : List SK) (M : List Nat) (w : WT) : TT := fun σ H Q => ∃ g env W, Frm K κ g env σ H ∧ w env W ∧
  ∀ b H' g' env', Frm K κ g' env' σ H' → EStep M g g' H H' → W b env' → Q b H'
def ST (X : Cx) (κ : List SK) (M : List Nat) (e : Expr) (w : WT) : Prop := PT X e (cT X.K κ M w)

section
variable {K : PySem.W.Frag} {κ : List SK} {g g' g2 : Rg} {env env' : En} {σ : St} {H H' H2 : Hp} {M M' : List Nat} {v : V} {d : D}
theorem EStep.refl : EStep M g g H H := ⟨rfl, rfl, rfl, fun _ h => h, fun _ h => .inl h, fun _ _ h _ _ => h, fun _ _ h => h⟩
theorem EStep.same (s : ∀ b o, H b = some o → H' b = some o) : EStep M g g H H' := ⟨rfl, rfl, rfl, fun _ h => h, fun _ h => .inl h, fun b o h _ _ => s b o h, fun _ _ ⟨x, y, z, e⟩ => ⟨x, y, z, s _ _ e⟩⟩
theorem EStep.mono (h : EStep M g g' H H') (s : ∀ i ∈ M, i ∈ M') : EStep M' g g' H H' := ⟨h.al, h.P, h.I, h.up, h.dn, fun b o e p q => h.keep b o e p fun i hi => q i (s i hi), h.pool⟩
theorem Frm.alo (f : Frm K κ g env σ H) (i : Nat) (a : Addr) (e : g.al i = some a) : ¬ g.O a ∧ H a ≠ none := ⟨(f.alo' i a e).1, (f.alo' i a e).2.1⟩
theorem Frm.ot (f : Frm K κ g env σ H) (a : Addr) (q : g.O a) : H a ≠ none := (f.ot' a q).1
theorem Frm.own_tk (f : Frm K κ g env σ H) {a : Addr} (h : g.own a) : Tk H a := h.elim (f.ot' a) fun ⟨i, e⟩ => (f.alo' i a e).2
theorem Frm.own_ne (f : Frm K κ g env σ H) {a : Addr} (h : g.own a) : H a ≠ none := by
  rcases h with h | ⟨i, h⟩
  · exact f.ot a h
  · exact (f.alo i a h).2
theorem Frm.p_own (f : Frm K κ g env σ H) {a : Addr} (h : g.P a) : g.own a := .inl (f.pl a h).1
/-- what is tracked stays tracked -/
theorem EStep.there {σ' : St} (h : EStep M g g' H H') (f : Frm K κ g env σ H) (f' : Frm K κ g' env' σ' H') {a : Addr} (e : H' a = none) : H a = none := by
  cases q : H a with
  | none => rfl
  | some o =>
    by_cases hp : g.P a
    · have := h.pool a hp (f.pl a hp).2
      obtain ⟨x, y, z, r⟩ := this
      rw [r] at e; cases e
    · by_cases hm : ∀ i ∈ M, g.al i ≠ some a
      · rw [h.keep a o q hp hm] at e; cases e
      · have : ∃ i, i ∈ M ∧ g.al i = some a := by
          apply Classical.byContradiction
          intro c
          exact hm fun i hi z => c ⟨i, hi, z⟩
        obtain ⟨i, hi, z⟩ := this
        exact absurd e (f'.alo i a (by rw [h.al]; exact z)).2
theorem EStep.trans {σ' : St} (h : EStep M g g' H H') (h2 : EStep M' g' g2 H' H2) (f : Frm K κ g env σ H) (f' : Frm K κ g' env' σ' H') : EStep (M ++ M') g g2 H H2 := by
  refine ⟨h2.al.trans h.al, h2.P.trans h.P, h2.I.trans h.I, fun a q => h2.up a (h.up a q), fun a q => ?_, fun b o e p q => ?_, fun b p q => h2.pool b (by rw [h.P]; exact p) (h.pool b p q)⟩
  · rcases h2.dn a q with z | z
    · exact h.dn a z
    · exact .inr (h.there f f' z)
  · exact h2.keep b o (h.keep b o e p fun i hi => q i (List.mem_append_left _ hi)) (by rw [h.P]; exact p) fun i hi => by rw [h.al]; exact q i (List.mem_append_right _ hi)
/-- off the owned things all is kept -/
theorem EStep.off (h : EStep M g g' H H') (f : Frm K κ g env σ H) : ∀ a o, ¬ g.own a → H a = some o → H' a = some o := fun a o n e =>
  h.keep a o e (fun p => n (f.p_own p)) fun i _ z => n (.inr ⟨i, z⟩)
theorem EStep.own (h : EStep M g g' H H') : ∀ a, g'.own a → g.own a ∨ H a = none := fun a q => by
  rcases q with q | ⟨i, q⟩
  · exact (h.dn a q).imp .inl id
  · rw [h.al] at q; exact .inl (.inr ⟨i, q⟩)
def stable (k : RK) (M : List Nat) : Bool := match k with
  | .ow i => !M.contains i
  | _ => true
/-- an answer stays told through a further step -/
theorem Res.step {k : RK} {H0 : Hp} (r : Res K g k H0 H v d) (h : EStep M g g' H H') (f : Frm K κ g env σ H) (hs : stable k M = true) : Res K g' k H0 H' v d := by
  have ko := h.off f
  have ho := h.own
  cases k with
  | fz => exact Rep.keep ko ho r
  | rd =>
    rcases r with r | ⟨a, rfl, np, na, r⟩
    · exact .inl (Rep.keep ko ho r)
    · refine .inr ⟨a, rfl, by rw [h.P]; exact np, by rw [h.I]; exact na, r.keep (fun o e => h.keep a o e np fun i _ z => (f.alo i a z).1 (f.il a na)) ko ho⟩
  | nw =>
    obtain ⟨p, rfl, n, hO, hP, r⟩ := r
    refine ⟨p, rfl, n, h.up p hO, by rw [h.P]; exact hP, r.keep (fun o e => h.keep p o e hP fun i _ z => (f.alo i p z).1 hO) ko ho⟩
  | ow i =>
    obtain ⟨a, rfl, e, r⟩ := r
    refine ⟨a, rfl, by rw [h.al]; exact e, r.keep (fun o q => h.keep a o q (fun p => (f.alo i a e).1 (f.pl a p).1) fun j hj z => ?_) ko ho⟩
    have : j = i := f.inj j i a z e
    subst this
    simp [stable] at hs
    exact hs hj
  | pl =>
    obtain ⟨a, rfl, p, e⟩ := r
    exact ⟨a, rfl, by rw [h.P]; exact p, e⟩
  | np =>
    obtain ⟨p, rfl, n, hO, hP, ⟨x, y, z, r⟩, e⟩ := r
    exact ⟨p, rfl, n, h.up p hO, by rw [h.P]; exact hP, ⟨x, y, z, h.keep p _ r hP fun i _ z => (f.alo i p z).1 hO⟩, e⟩
/-- whatever the kind (but a pool), it may be read now -/
theorem Res.rdb {k : RK} {H0 : Hp} (r : Res K g k H0 H v d) (hk : k.rdable = true) : RdB K H g.own v d := by
  cases k with
  | fz => exact .inl r
  | rd => exact r.imp id fun ⟨a, e, _, _, q⟩ => ⟨a, e, q⟩
  | nw => obtain ⟨p, e, _, _, _, q⟩ := r; exact .inr ⟨p, e, q.r⟩
  | ow i => obtain ⟨p, e, _, q⟩ := r; exact .inr ⟨p, e, q.r⟩
  | pl => simp [RK.rdable] at hk
  | np => simp [RK.rdable] at hk
end
end G7

set_option maxRecDepth 100000
namespace G7
open PySem PySem.Spec PyProof.Rows L2

section
variable {K : PySem.W.Frag} {κ : List SK} {g g' g2 : Rg} {env env' : En} {σ : St} {H H' H2 : Hp} {M M' : List Nat} {v : V} {d : D}
theorem EStep.tr {σ' : St} (h : EStep M g g' H H') (h2 : EStep M g' g2 H' H2) (f : Frm K κ g env σ H) (f' : Frm K κ g' env' σ' H') : EStep M g g2 H H2 :=
  (h.trans h2 f f').mono fun i hi => (List.mem_append.mp hi).elim id id
theorem Res.back {k : RK} {H0 H1 : Hp} (r : Res K g k H1 H v d) (t : ∀ p, H1 p = none → H0 p = none) : Res K g k H0 H v d := by
  cases k with
  | fz => exact r
  | rd => exact r
  | nw => obtain ⟨p, e, n, q⟩ := r; exact ⟨p, e, t p n, q⟩
  | ow i => exact r
  | pl => exact r
  | np => obtain ⟨p, e, n, q⟩ := r; exact ⟨p, e, t p n, q⟩
theorem RdB.keep (r : RdB K H g.own v d) (k : ∀ b o, H b = some o → H' b = some o) (hs : ∀ a, g'.own a → g.own a ∨ H a = none) : RdB K H' g'.own v d := by
  rcases r with r | ⟨a, e, r⟩
  · exact .inl (Rep.keep (fun a o _ q => k a o q) hs r)
  · exact .inr ⟨a, e, r.keep (fun o q => k a o q) (fun a o _ q => k a o q) hs⟩
/-- a step that keeps all but the pools -/
theorem Frm.next (f : Frm K κ g env σ H) (k : ∀ b o, H b = some o → ¬ g.P b → H' b = some o) (kp : ∀ b, g.P b → Pool H' b) (al : g'.al = g.al) (P : g'.P = g.P) (hI : g'.I = g.I) (up : ∀ a, g.P a → g'.O a) (ui : ∀ a, g.I a → g'.O a)
    (dn : ∀ a, g'.O a → g.O a ∨ (H a = none ∧ Tk H' a)) : Frm K κ g' env σ H' := by
  have nP : ∀ i a, g.al i = some a → ¬ g.P a := fun i a e p => (f.alo i a e).1 (f.pl a p).1
  have own : ∀ a, g'.own a → g.own a ∨ H a = none := fun a q => by
    rcases q with q | ⟨i, q⟩
    · exact (dn a q).imp .inl (·.1)
    · rw [al] at q; exact .inl (.inr ⟨i, q⟩)
  have off : ∀ a o, ¬ g.own a → H a = some o → H' a = some o := fun a o n e => k a o e fun p => n (f.p_own p)
  have there : ∀ a, Tk H a → Tk H' a := fun a h => by
    by_cases p : g.P a
    · exact (kp a p).tk
    · exact h.of fun o e => k a o e p
  refine ⟨f.ln, f.sl, fun i d e => ?_, by rw [al]; exact f.inj, fun i a e => ?_, fun a q => ?_, fun a q => by rw [hI] at q; exact ui a q, fun a p => ?_⟩
  · obtain ⟨v, e1, s⟩ := f.ev i d e
    refine ⟨v, e1, ?_⟩
    cases hk : kindOf κ i <;> rw [hk] at s <;> unfold SlotK at s ⊢ <;> simp only at s ⊢
    · exact s
    · exact Rep.keep off own s
    · rcases s with s | ⟨a, rfl, np, na, s⟩
      · exact .inl (Rep.keep off own s)
      · exact .inr ⟨a, rfl, by rw [P]; exact np, by rw [hI]; exact na, s.keep (fun o q => k a o q np) off own⟩
    · obtain ⟨a, rfl, ea, s⟩ := s
      exact ⟨a, rfl, by rw [al]; exact ea, s.keep (fun o q => k a o q (nP i a ea)) off own⟩
    · obtain ⟨a, rfl, ea, s⟩ := s
      exact ⟨a, rfl, by rw [al]; exact ea, s.keep (fun o q => k a o q (nP i a ea)) off own⟩
    · obtain ⟨a, rfl, p, s⟩ := s
      exact ⟨a, rfl, by rw [P]; exact p, s⟩
    · rcases s with ⟨a, rfl, ea, s⟩ | ⟨d', e', s⟩
      · exact .inl ⟨a, rfl, by rw [al]; exact ea, s.keep (fun o q => k a o q (nP i a ea)) off own⟩
      · exact .inr ⟨d', e', Rep.keep off own s⟩
  · rw [al] at e
    refine ⟨fun q => ?_, there a (f.alo' i a e).2⟩
    rcases dn a q with z | ⟨z, _⟩
    · exact (f.alo i a e).1 z
    · exact (f.alo i a e).2 z
  · rcases dn a q with z | ⟨_, z⟩
    · exact there a (f.ot' a z)
    · exact z
  · rw [P] at p
    exact ⟨up a p, kp a p⟩
theorem Frm.same (f : Frm K κ g env σ H) (k : ∀ b o, H b = some o → H' b = some o) : Frm K κ g env σ H' :=
  f.next (fun b o e _ => k b o e) (fun b p => by obtain ⟨x, y, z, e⟩ := (f.pl b p).2; exact ⟨x, y, z, k _ _ e⟩) rfl rfl rfl (fun a p => (f.pl a p).1) f.il fun a q => .inl q
def Rg.add (g : Rg) (p : Addr) : Rg := { g with O := fun a => g.O a ∨ a = p }
theorem Rg.add_own {p a : Addr} : (g.add p).own a ↔ g.own a ∨ a = p := by
  unfold Rg.own Rg.add
  constructor
  · rintro ((h | h) | h)
    · exact .inl (.inl h)
    · exact .inr h
    · exact .inl (.inr h)
  · rintro ((h | h) | h)
    · exact .inl (.inl h)
    · exact .inr h
    · exact .inl (.inr h)
theorem same_new {p : Addr} {o : HO} (h : H p = none) : ∀ b x, H b = some x → (upd H p o) b = some x := fun b x e => by rw [upd_ne (ne_of_none e h)]; exact e
/-- a new thing at p, owned by the expression -/
theorem Frm.new (f : Frm K κ g env σ H) {p : Addr} {o : HO} (h : H p = none) (ht : ∀ xs, o ≠ .tup xs := by intro _ h; cases h) : Frm K κ (g.add p) env σ (upd H p o) :=
  f.next (fun b x e _ => same_new h b x e) (fun b q => by obtain ⟨x, y, z, e⟩ := (f.pl b q).2; exact ⟨x, y, z, same_new h _ _ e⟩) rfl rfl rfl (fun a q => .inl (f.pl a q).1) (fun a q => .inl (f.il a q))
    fun a q => q.imp id fun e => by subst e; exact ⟨h, by rw [upd_same]; simp, fun xs z => by rw [upd_same] at z; exact ht xs (Option.some.inj z)⟩
theorem EStep.new {p : Addr} {o : HO} (h : H p = none) : EStep M g (g.add p) H (upd H p o) :=
  ⟨rfl, rfl, rfl, fun _ q => .inl q, fun a q => q.imp id fun e => by subst e; exact h, fun b x e _ _ => same_new h b x e, fun b _ q => by obtain ⟨x, y, z, e⟩ := q; exact ⟨x, y, z, same_new h _ _ e⟩⟩
theorem EStep.new0 {p : Addr} {o : HO} (h : H p = none) : EStep M g g H (upd H p o) := EStep.same (same_new h)
theorem Frm.new0 (f : Frm K κ g env σ H) {p : Addr} {o : HO} (h : H p = none) : Frm K κ g env σ (upd H p o) := f.same (same_new h)
/-- less is owned -/
theorem Frm.less (f : Frm K κ g env σ H) (al : g'.al = g.al) (P : g'.P = g.P) (hI : g'.I = g.I) (ui : ∀ a, g.I a → g'.O a) (up : ∀ a, g.P a → g'.O a) (dn : ∀ a, g'.O a → g.O a) : Frm K κ g' env σ H :=
  f.next (fun b o e _ => e) (fun b p => (f.pl b p).2) al P hI up ui fun a q => .inl (dn a q)
end

section
variable {X : Cx} {κ : List SK} {M : List Nat} {e a b : Expr} {w wa wb : WE} {k ka kb : RK} {pos : Pos}
theorem SE.of {t : TE} (h : PE X e t) (s : ∀ σ H Q, cE X.K κ M k w σ H Q → t σ H Q) : SE X κ M k e w := ⟨fun pins s0 σ H Q I q => h.run pins s0 σ H Q I (s σ H Q q)⟩
theorem ST.of {c : Expr} {wt : WT} {t : TT} (h : PT X c t) (s : ∀ σ H Q, cT X.K κ M wt σ H Q → t σ H Q) : ST X κ M c wt := ⟨fun pins s0 σ H Q I q => h.run pins s0 σ H Q I (s σ H Q q)⟩
/-- a smaller reading -/
theorem SE.imp {w' : WE} (h : SE X κ M k e w) (i : ∀ en Q, w' en Q → w en Q) : SE X κ M k e w' := SE.of h fun σ H Q ⟨g, env, W, F, hw, post⟩ => ⟨g, env, W, F, i _ _ hw, post⟩
/-- a new thing is given away -/
theorem SE.nf (h : SE X κ M .nw e w) : SE X κ M .fz e w := SE.of h fun σ H Q ⟨g, env, W, F, hw, post⟩ => ⟨g, env, W, F, hw, fun v H' g' env' d F' s ⟨p, e1, n, hO, hP, r⟩ wd => by
  subst e1
  have F2 : Frm X.K κ { g' with O := g.O } env' σ H' := F'.less rfl rfl rfl (fun a q => F.il a (by rw [← s.I]; exact q)) (fun a q => (F.pl a (by rw [← s.P]; exact q)).1) s.up
  refine post _ H' { g' with O := g.O } env' d F2 ⟨s.al, s.P, s.I, fun _ q => q, fun _ q => .inl q, s.keep, s.pool⟩ ?_ wd
  have sub : ∀ a, Rg.own { g' with O := g.O } a → g'.own a := fun a q => q.imp (s.up a) id
  have np : ¬ Rg.own { g' with O := g.O } p := fun q => by
    rcases q with q | ⟨i, q⟩
    · exact F.ot p q n
    · exact (F'.alo i p q).1 hO
  exact (r.keep (S' := Rg.own { g' with O := g.O }) (H' := H') (fun _ q => q) (fun _ _ _ q => q) fun a q => .inl (sub a q)).rep np⟩
theorem se_v {i : Nat} {x : Str} (h : PE X (.Name x pos) (tVar i)) (hk : kindOf κ i = .v) : SE X κ M .fz (.Name x pos) (wVar i) := SE.of h fun σ H Q ⟨g, env, W, F, ⟨d, e1, hw⟩, post⟩ => by
  obtain ⟨v, e2, s⟩ := F.ev i d e1
  rw [hk] at s
  exact ⟨v, e2, post v H g env d F .refl s hw⟩
theorem se_r {i : Nat} {x : Str} (h : PE X (.Name x pos) (tVar i)) (hk : kindOf κ i = .r) : SE X κ M .rd (.Name x pos) (wVar i) := SE.of h fun σ H Q ⟨g, env, W, F, ⟨d, e1, hw⟩, post⟩ => by
  obtain ⟨v, e2, s⟩ := F.ev i d e1
  rw [hk] at s
  exact ⟨v, e2, post v H g env d F .refl s hw⟩
theorem se_o {i : Nat} {x : Str} (h : PE X (.Name x pos) (tVar i)) (hk : kindOf κ i = .o) : SE X κ M (.ow i) (.Name x pos) (wVar i) := SE.of h fun σ H Q ⟨g, env, W, F, ⟨d, e1, hw⟩, post⟩ => by
  obtain ⟨v, e2, s⟩ := F.ev i d e1
  rw [hk] at s
  exact ⟨v, e2, post v H g env d F .refl s hw⟩
theorem se_p {i : Nat} {x : Str} (h : PE X (.Name x pos) (tVar i)) (hk : kindOf κ i = .p) : SE X κ M .pl (.Name x pos) (wVar i) := SE.of h fun σ H Q ⟨g, env, W, F, ⟨d, e1, hw⟩, post⟩ => by
  obtain ⟨v, e2, s⟩ := F.ev i d e1
  rw [hk] at s
  exact ⟨v, e2, post v H g env d F .refl s hw⟩
theorem se_c {v : V} {d : D} (h : PE X e (tC v)) (r : ∀ H S, Rep X.K H S v d) : SE X κ M .fz e (wC d) := SE.of h fun σ H Q ⟨g, env, W, F, hw, post⟩ => post v H g env d F .refl (r _ _) hw
theorem se_int {i j} : SE X κ M .fz (.Constant (.int i) j pos) (wC (.int i)) := se_c pe_int fun _ _ => .int i
theorem se_bl {i j} : SE X κ M .fz (.Constant (.bool i) j pos) (wC (.bool i)) := se_c pe_bl fun _ _ => .bl i
theorem se_non {j} : SE X κ M .fz (.Constant .none j pos) (wC .none) := se_c pe_non fun _ _ => .non
theorem se_str {i j} : SE X κ M .fz (.Constant (.str i) j pos) (wC (.str i)) := se_c pe_str fun _ _ => .str i
/-- what an operator by values gives over data -/
def OpD (K : PySem.W.Frag) (r : R2) (f : D → D → Option D) (k : RK) : Prop := ∀ (κ : List SK) (g : Rg) (env : En) (σ : St) (H : Hp) (x y : V) (dx dy dz : D) (Q : VK), Frm K κ g env σ H → RdB K H g.own x dx → RdB K H g.own y dy → f dx dy = some dz →
  (∀ v H' g', Frm K κ g' env σ H' → EStep [] g g' H H' → Res K g' k H H' v dz → Q v H') → r x y H Q
theorem se_tOp {r : R2} {f : D → D → Option D} {E : Expr} (h : PE X E (tOp r (cE X.K κ M ka wa) (cE X.K κ M kb wb))) (hf : OpD X.K r f k) (hs : stable ka M = true) (pa : ka.rdable = true) (pb : kb.rdable = true) : SE X κ M k E (wOp2 f wa wb) :=
  SE.of h fun σ H Q ⟨g, env, W, F, hw, post⟩ => ⟨g, env, _, F, hw, fun x H1 g1 e1 d1 F1 s1 r1 w1 => ⟨g1, e1, _, F1, w1, fun y H2 g2 e2 d2 F2 s2 r2 w2 => by
    obtain ⟨z, ez, wz⟩ := w2
    refine hf κ g2 e2 σ H2 x y d1 d2 z Q F2 ((r1.step s2 F1 hs).rdb pa) (r2.rdb pb) ez fun v H3 g3 F3 s3 r3 => ?_
    have s12 := s1.tr s2 F F1
    exact post v H3 g3 e2 z F3 (s12.tr (s3.mono fun _ q => nomatch q) F F2) (r3.back fun p q => s12.there F F2 q) wz⟩⟩
theorem se_bin {op : Operator} {r : R2} {f : D → D → Option D} (ho : OpR X (binaryOp op) r) (hf : OpD X.K r f k) (ha : SE X κ M ka a wa) (hb : SE X κ M kb b wb) (hs : stable ka M = true := by rfl) (pa : ka.rdable = true := by rfl) (pb : kb.rdable = true := by rfl) :
    SE X κ M k (.BinOp a op b pos) (wOp2 f wa wb) := se_tOp (pe_op ho ha hb) hf hs pa pb
theorem se_cmp {op : CmpOp} {r : R2} {f : D → D → Option D} (ho : OpR X (compareOp op) r) (hf : OpD X.K r f k) (ha : SE X κ M ka a wa) (hb : SE X κ M kb b wb) (hm : behindInMarks op b = false) (hs : stable ka M = true := by rfl) (pa : ka.rdable = true := by rfl) (pb : kb.rdable = true := by rfl) :
    SE X κ M k (.Compare a [op] [b] pos) (wOp2 f wa wb) := se_tOp (pe_cmpR ho ha hb hm) hf hs pa pb
theorem se_ix {r : R2} {f : D → D → Option D} (ho : IxR X r) (hf : OpD X.K r f k) (ha : SE X κ M ka a wa) (hb : SE X κ M kb b wb) (hx : PlainIx b) (hs : stable ka M = true := by rfl) (pa : ka.rdable = true := by rfl) (pb : kb.rdable = true := by rfl) :
    SE X κ M k (.Subscript a b pos) (wOp2 f wa wb) := se_tOp (pe_ix ho ha hb hx) hf hs pa pb
def ResA (K : PySem.W.Frag) (g : Rg) (H0 H : Hp) : List RK → List V → List D → Prop
  | [], [], [] => True
  | k :: ks, v :: vs, d :: ds => Res K g k H0 H v d ∧ ResA K g H0 H ks vs ds
  | _, _, _ => False
def cA (K : PySem.W.Frag) (κ : List SK) (M : List Nat) (ks : List RK) (w : WA) : TA := fun σ H Q => ∃ g env W, Frm K κ g env σ H ∧ w env W ∧
  ∀ vs H' g' env' ds, Frm K κ g' env' σ H' → EStep M g g' H H' → ResA K g' H H' ks vs ds → W ds env' → Q vs H'
def SA (X : Cx) (κ : List SK) (M : List Nat) (ks : List RK) (es : List Expr) (w : WA) : Prop := PA X es (cA X.K κ M ks w)
theorem SA.of {es : List Expr} {ks : List RK} {wl : WA} {t : TA} (h : PA X es t) (s : ∀ σ H Q, cA X.K κ M ks wl σ H Q → t σ H Q) : SA X κ M ks es wl := ⟨fun p pins s0 σ H Q I q => h.run p pins s0 σ H Q I (s σ H Q q)⟩
theorem ResA.back {K : PySem.W.Frag} {g : Rg} {H H0 H1 : Hp} (t : ∀ p, H1 p = none → H0 p = none) : ∀ {ks : List RK} {vs : List V} {ds : List D}, ResA K g H1 H ks vs ds → ResA K g H0 H ks vs ds
  | [], [], [], _ => trivial
  | _ :: _, _ :: _, _ :: _, h => ⟨h.1.back t, h.2.back t⟩
  | [], [], _ :: _, h => h.elim
  | [], _ :: _, _, h => h.elim
  | _ :: _, [], _, h => h.elim
  | _ :: _, _ :: _, [], h => h.elim
theorem sa_nil : SA X κ M [] [] waNil := SA.of pa_nil fun σ H Q ⟨g, env, W, F, hw, post⟩ => post [] H g env [] F .refl trivial hw
theorem sa_cons {es : List Expr} {ks : List RK} {wr : WA} (ha : SE X κ M ka a wa) (hr : SA X κ M ks es wr) (hs : stable ka M = true := by rfl) (he : starEach (a :: es) X.env = (false, eval a X.env) :: starEach es X.env := by rfl) : SA X κ M (ka :: ks) (a :: es) (waCons wa wr) :=
  SA.of (pa_cons ha hr he) fun σ H Q ⟨g, env, W, F, hw, post⟩ => ⟨g, env, _, F, hw, fun x H1 g1 e1 d1 F1 s1 r1 w1 => ⟨g1, e1, _, F1, w1, fun ys H2 g2 e2 ds F2 s2 r2 w2 =>
    post (x :: ys) H2 g2 e2 (d1 :: ds) F2 (s1.tr s2 F F1) ⟨(r1.step s2 F1 hs), r2.back fun p q => s1.there F F1 q⟩ w2⟩⟩
theorem ResA.len {K : PySem.W.Frag} {g : Rg} {H H0 : Hp} : ∀ {ks : List RK} {vs : List V} {ds : List D}, ResA K g H0 H ks vs ds → vs.length = ds.length
  | [], [], [], _ => rfl
  | _ :: _, _ :: _, _ :: _, h => by simp [ResA.len h.2]
  | [], [], _ :: _, h => h.elim
  | [], _ :: _, _, h => h.elim
  | _ :: _, [], _, h => h.elim
  | _ :: _, _ :: _, [], h => h.elim
/-- all of them told for good -/
theorem ResA.all {K : PySem.W.Frag} {g : Rg} {H H0 : Hp} : ∀ {ks : List RK} {vs : List V} {ds : List D}, ks.all (· == .fz) = true → ResA K g H0 H ks vs ds → RepAll K H g.own vs ds
  | [], [], [], _, _ => .nil
  | k :: _, _ :: _, _ :: _, hk, h => by
    simp only [List.all_cons, Bool.and_eq_true, beq_iff_eq] at hk
    obtain ⟨e, hk⟩ := hk
    subst e
    exact .cons h.1 (ResA.all hk h.2)
  | [], [], _ :: _, _, h => h.elim
  | [], _ :: _, _, _, h => h.elim
  | _ :: _, [], _, _, h => h.elim
  | _ :: _, _ :: _, [], _, h => h.elim
theorem lim_line {n : Nat} (h : n ≤ lim) : n ≤ sizeLine := Nat.le_trans h (by rw [sizeLine_eq]; decide)
/-- a display of a tuple, as it is laid -/
def tTupM (t : TA) : TE := fun σ H Q => t σ H fun xs H1 => xs.length ≤ sizeLine ∧ ∀ p o, H1 p = none → MkT o xs → Q (.ref p) (upd H1 p o)
theorem pe_tupM {es : List Expr} {t : TA} {x1} (h : PA X es t) : PE X (.Tuple es x1 pos) (tTupM t) := by
  refine ⟨fun pins s σ H Q I hq => ?_⟩
  refine wpAny_Tuple_spliced (thn (h.run pos pins s σ H _ I hq) fun us t1 ⟨xs, H1, I1, r, z, q⟩ => ⟨by rw [← r.length]; exact z, ?_⟩)
  obtain ⟨o, m, I2⟩ := mk_laid I1 r z rfl
  exact ⟨.ref t1.heap.objs.size, _, I2, rfl, q _ o (I1.hok.fresh (Nat.le_refl _)) m⟩
theorem se_tup {es : List Expr} {ks : List RK} {wl : WA} {x1} (h : SA X κ M ks es wl) (hk : ks.all (· == .fz) = true := by rfl) : SE X κ M .fz (.Tuple es x1 pos) (wTup wl) :=
  SE.of (pe_tupM h) fun σ H Q ⟨g, env, W, F, hw, post⟩ => ⟨g, env, _, F, hw, fun vs H1 g1 e1 ds F1 s1 r1 w1 => by
    obtain ⟨hl, w1⟩ := w1
    have z : vs.length ≤ sizeLine := by rw [r1.len]; exact lim_line hl
    refine ⟨z, fun p o np m => post _ _ g1 e1 _ (F1.new0 np) (s1.tr (.new0 np) F F1) ?_ w1⟩
    have own : ¬ g1.own p := fun q => F1.own_ne q np
    exact .tup own (m.rdT r1.len upd_same) z ((r1.all hk).keep (fun a o _ e => same_new np a o e) fun a q => .inl q)⟩
theorem se_lst {es : List Expr} {ks : List RK} {wl : WA} (h : SA X κ M ks es wl) (hk : ks.all (· == .fz) = true := by rfl) : SE X κ M .nw (.List es pos) (wList wl) :=
  SE.of (pe_lst h) fun σ H Q ⟨g, env, W, F, hw, post⟩ => ⟨g, env, _, F, hw, fun vs H1 g1 e1 ds F1 s1 r1 w1 => by
    obtain ⟨hl, w1⟩ := w1
    have z : vs.length ≤ sizeLine := by rw [r1.len]; exact lim_line hl
    refine ⟨z, fun p np => post _ _ (g1.add p) e1 _ (F1.new np) (s1.tr (.new np) F F1) ⟨p, rfl, s1.there F F1 np, .inr rfl, fun q => F1.own_ne (F1.p_own q) np, .lst upd_same z ?_⟩ w1⟩
    exact (r1.all hk).keep (fun a o _ e => same_new np a o e) fun a q => (Rg.add_own.mp q).imp id fun e => by rw [e]; exact np⟩
def RdA (K : PySem.W.Frag) (H : Hp) (S : Addr → Prop) : List V → List D → Prop
  | [], [] => True
  | v :: vs, d :: ds => RdB K H S v d ∧ RdA K H S vs ds
  | _, _ => False
theorem ResA.rda {K : PySem.W.Frag} {g : Rg} {H H0 : Hp} : ∀ {ks : List RK} {vs : List V} {ds : List D}, ks.all RK.rdable = true → ResA K g H0 H ks vs ds → RdA K H g.own vs ds
  | [], [], [], _, _ => trivial
  | k :: _, _ :: _, _ :: _, hk, h => by
    simp only [List.all_cons, Bool.and_eq_true] at hk
    exact ⟨h.1.rdb hk.1, ResA.rda hk.2 h.2⟩
  | [], [], _ :: _, _, h => h.elim
  | [], _ :: _, _, _, h => h.elim
  | _ :: _, [], _, _, h => h.elim
  | _ :: _, _ :: _, [], _, h => h.elim
def BlD (K : PySem.W.Frag) (r : List V → Hp → VK → Prop) (f : List D → Option D) (k : RK) : Prop := ∀ (κ : List SK) (g : Rg) (env : En) (σ : St) (H : Hp) (vs : List V) (ds : List D) (dz : D) (Q : VK), Frm K κ g env σ H → RdA K H g.own vs ds → f ds = some dz →
  (∀ v H' g', Frm K κ g' env σ H' → EStep [] g g' H H' → Res K g' k H H' v dz → Q v H') → r vs H Q
theorem se_tCB {r : List V → Hp → VK → Prop} {f : List D → Option D} {E : Expr} {ks : List RK} {wl : WA} (h : PE X E (tCB r (cA X.K κ M ks wl))) (hf : BlD X.K r f k) (hk : ks.all RK.rdable = true) : SE X κ M k E (wBlt f wl) :=
  SE.of h fun σ H Q ⟨g, env, W, F, hw, post⟩ => ⟨g, env, _, F, hw, fun vs H1 g1 e1 ds F1 s1 r1 w1 => by
    obtain ⟨z, ez, wz⟩ := w1
    refine hf κ g1 e1 σ H1 vs ds z Q F1 (r1.rda hk) ez fun v H3 g3 F3 s3 r3 => ?_
    exact post v H3 g3 e1 z F3 (s1.tr (s3.mono fun _ q => nomatch q) F F1) (r3.back fun p q => s1.there F F1 q) wz⟩
end
end G7

set_option maxRecDepth 100000
namespace G7
open PySem PySem.Spec PyProof.Rows L2

inductive PM where | fz | rd | pl
  deriving DecidableEq
def ArgOk (K : PySem.W.Frag) (H : Hp) (O P : Addr → Prop) (m : PM) (v : V) (d : D) : Prop := match m with
  | .fz => Rep K H O v d
  | .rd => Rep K H O v d ∨ ∃ a, v = .ref a ∧ ¬ P a ∧ O a ∧ ObjR K H O a d
  | .pl => ∃ a, v = .ref a ∧ P a ∧ d = .none
def ArgsOk (K : PySem.W.Frag) (H : Hp) (O P : Addr → Prop) : List PM → List V → List D → Prop
  | [], [], [] => True
  | m :: ms, v :: vs, d :: ds => ArgOk K H O P m v d ∧ ArgsOk K H O P ms vs ds
  | _, _, _ => False
def ResC (K : PySem.W.Frag) (k : RK) (H H' : Hp) (O : Addr → Prop) (v : V) (d : D) : Prop := match k with
  | .nw => ∃ p, v = .ref p ∧ H p = none ∧ Obj1 K H' (fun a => O a ∨ a = p) p d
  | _ => Rep K H' O v d
/-- the promise: S tells of the arguments' data what is wanted of the answer's -/
def spOf (K : PySem.W.Frag) (ms : List PM) (k : RK) (S : FS) : Sp := fun vs H Q _ => ∃ (O P : Addr → Prop) (ds : List D) (Post : D → Prop),
  (∀ a, O a → Tk H a) ∧ (∀ a, P a → O a ∧ Pool H a) ∧ ArgsOk K H O P ms vs ds ∧ S ds Post ∧
  ∀ v H' d, Post d → (∀ b o, H b = some o → ¬ P b → H' b = some o) → (∀ b, P b → Pool H' b) → ResC K k H H' O v d → Q v H'
theorem ArgsOk.len {K : PySem.W.Frag} {H : Hp} {O P : Addr → Prop} : ∀ {ms : List PM} {vs : List V} {ds : List D}, ArgsOk K H O P ms vs ds → vs.length = ms.length ∧ ds.length = ms.length
  | [], [], [], _ => ⟨rfl, rfl⟩
  | _ :: _, _ :: _, _ :: _, h => by have := ArgsOk.len h.2; simp [this.1, this.2]
  | [], [], _ :: _, h => h.elim
  | [], _ :: _, _, h => h.elim
  | _ :: _, [], _, h => h.elim
  | _ :: _, _ :: _, [], h => h.elim
def pass1 : RK → PM → Bool
  | .fz, .fz => true
  | .pl, .pl => true
  | .pl, _ => false
  | .np, _ => false
  | _, .rd => true
  | _, _ => false
def passA : List RK → List PM → Bool
  | [], [] => true
  | k :: ks, m :: ms => pass1 k m && passA ks ms
  | _, _ => false
section
variable {K : PySem.W.Frag} {κ : List SK} {g g' : Rg} {env env' : En} {σ : St} {H H' H0 : Hp} {M : List Nat}
theorem Res.arg {k : RK} {m : PM} {v : V} {d : D} (f : Frm K κ g env σ H) (hp : pass1 k m = true) (r : Res K g k H0 H v d) : ArgOk K H g.own g.P m v d := by
  cases k with
  | fz => cases m <;> first | exact r | exact .inl r | simp [pass1] at hp
  | rd => cases m <;> first | exact r.imp id (fun ⟨a, e, np, hi, q⟩ => ⟨a, e, np, .inl (f.il a hi), q⟩) | simp [pass1] at hp
  | nw => cases m <;> first | (obtain ⟨p, e, _, hO, np, q⟩ := r; exact .inr ⟨p, e, np, .inl hO, q.r⟩) | simp [pass1] at hp
  | ow i => cases m <;> first | (obtain ⟨p, e, ea, q⟩ := r; exact .inr ⟨p, e, fun z => (f.alo i p ea).1 (f.pl p z).1, .inr ⟨i, ea⟩, q.r⟩) | simp [pass1] at hp
  | pl => cases m <;> first | exact r | simp [pass1] at hp
  | np => cases m <;> simp [pass1] at hp
theorem ResA.args (f : Frm K κ g env σ H) : ∀ {ks : List RK} {ms : List PM} {vs : List V} {ds : List D}, passA ks ms = true → ResA K g H0 H ks vs ds → ArgsOk K H g.own g.P ms vs ds
  | [], [], [], [], _, _ => trivial
  | k :: ks, m :: ms, v :: vs, d :: ds, hp, h => by
    simp only [passA, Bool.and_eq_true] at hp
    exact ⟨h.1.arg f hp.1, ResA.args f hp.2 h.2⟩
  | [], _ :: _, _, _, hp, _ => by simp [passA] at hp
  | _ :: _, [], _, _, hp, _ => by simp [passA] at hp
  | [], [], [], _ :: _, _, h => h.elim
  | [], [], _ :: _, _, _, h => h.elim
  | _ :: _, _ :: _, [], _, _, h => h.elim
  | _ :: _, _ :: _, _ :: _, [], _, h => h.elim
/-- behind a call -/
theorem ResC.back {k : RK} {v : V} {d : D} (f : Frm K κ g env σ H) (hk : k = .fz ∨ k = .nw) (kp : ∀ b o, H b = some o → ¬ g.P b → H' b = some o) (pl : ∀ b, g.P b → Pool H' b) (r : ResC K k H H' g.own v d) :
    ∃ g', Frm K κ g' env σ H' ∧ EStep [] g g' H H' ∧ Res K g' k H H' v d := by
  rcases hk with rfl | rfl
  · refine ⟨g, f.next kp pl rfl rfl rfl (fun a p => (f.pl a p).1) f.il fun a q => .inl q, ⟨rfl, rfl, rfl, fun _ q => q, fun _ q => .inl q, fun b o e p _ => kp b o e p, fun b p _ => pl b p⟩, r⟩
  · obtain ⟨p, rfl, n, r⟩ := r
    have F2 : Frm K κ (g.add p) env σ H' := f.next kp pl rfl rfl rfl (fun a p => .inl (f.pl a p).1) (fun a p => .inl (f.il a p)) fun a q => q.imp id fun e => by subst e; exact ⟨n, r.tk⟩
    refine ⟨g.add p, F2, ⟨rfl, rfl, rfl, fun _ q => .inl q, fun a q => q.imp id fun e => by subst e; exact n, fun b o e p _ => kp b o e p, fun b p _ => pl b p⟩, p, rfl, n, .inr rfl, fun q => f.own_ne (f.p_own q) n, ?_⟩
    exact r.keep (fun _ q => q) (fun _ _ _ q => q) fun a q => .inl (Rg.add_own.mp q)
end
section
variable {X : Cx} {κ : List SK} {M : List Nat} {k : RK} {pos : Pos}
theorem se_call {lv : Nat} {f : Addr} {fd : FuncData} {ps : List Str} {ms : List PM} {S : FS} {x : Str} {p : Pos} {e : Expr} {es : List Expr} {ks : List RK} {wl : WA} (F : FnOk X.prog X.w X.K X.mg X.base CX0 lv f fd ps (spOf X.K ms k S)) (hr : Room lv X.A) (hg : Gl X x) (hm : X.mg x = some (.ref f))
    (hk : PySem.W.keepIn X.K (.ref f) = true) (hb : Binds X.K fd ps []) (ha : SA X κ M ks (e :: es) wl) (hp : passA ks ms = true := by rfl) (kk : k = .fz ∨ k = .nw := by first | exact .inl rfl | exact .inr rfl) (hdb : (x == ("__debug__" : Str)) = false := by decide)
    (he : starEach (e :: es) X.env = (false, eval e X.env) :: starEach es X.env := by rfl) (hpl : (backTo pos (starEach es X.env)).any (·.1) = false := by rfl) : SE X κ M k (.Call (.Name x p) (e :: es) [] pos) (wCall S wl) :=
  SE.of (pe_call (E := E0) F hr hg hm hk hb .nil pass0 ha hdb he hpl) fun σ H Q ⟨g, env, W, Fr0, hw, post⟩ => ⟨g, env, _, Fr0, hw, fun vs H1 g1 e1 ds F1 s1 r1 w1 => by
    show spOf X.K ms k S (vs ++ []) H1 Q E0
    rw [List.append_nil]
    refine ⟨g1.own, g1.P, ds, _, fun a q => F1.own_tk q, fun a q => ⟨F1.p_own q, (F1.pl a q).2⟩, r1.args F1 hp, w1, fun v H2 d wd kp pl rc => ?_⟩
    obtain ⟨g2, F2, s2, r2⟩ := ResC.back F1 kk kp pl rc
    exact post v H2 g2 e1 d F2 (s1.tr (s2.mono fun _ q => nomatch q) Fr0 F1) (r2.back fun p q => s1.there Fr0 F1 q) wd⟩
theorem se_blt {id : String} {r : List V → Hp → VK → Prop} {f : List D → Option D} {x : Str} {p : Pos} {e : Expr} {es : List Expr} {ks : List RK} {wl : WA} (hc : CallR X (.builtin id) r) (hf : BlD X.K r f k) (hg : Gl X x) (hm : X.mg x = none) (hv : bootBuiltins x = some (.builtin id)) (ha : SA X κ M ks (e :: es) wl)
    (hk : ks.all RK.rdable = true := by rfl) (hn : x ≠ "__name__" := by decide) (hdb : (x == ("__debug__" : Str)) = false := by decide)
    (he : starEach (e :: es) X.env = (false, eval e X.env) :: starEach es X.env := by rfl) (hpl : (backTo pos (starEach es X.env)).any (·.1) = false := by rfl) : SE X κ M k (.Call (.Name x p) (e :: es) [] pos) (wBlt f wl) :=
  se_tCB (pe_callB hc hg hm hv ha hn hdb he hpl) hf hk
theorem se_bty {T : String} {r : List V → Hp → VK → Prop} {f : List D → Option D} {x : Str} {p : Pos} {e : Expr} {es : List Expr} {ks : List RK} {wl : WA} (hc : CallR X (.type T) r) (hf : BlD X.K r f k) (hg : Gl X x) (hm : X.mg x = none) (hv : bootBuiltins x = some (.type T)) (ha : SA X κ M ks (e :: es) wl)
    (hk : ks.all RK.rdable = true := by rfl) (hn : x ≠ "__name__" := by decide) (hdb : (x == ("__debug__" : Str)) = false := by decide)
    (he : starEach (e :: es) X.env = (false, eval e X.env) :: starEach es X.env := by rfl) (hpl : (backTo pos (starEach es X.env)).any (·.1) = false := by rfl) : SE X κ M k (.Call (.Name x p) (e :: es) [] pos) (wBlt f wl) :=
  se_tCB (pe_callTy hc hg hm hv ha hn hdb he hpl) hf hk
end

section
variable {X : Cx} {κ : List SK} {M : List Nat} {a b c : Expr} {w wa wb : WE} {ka kb k : RK} {pos : Pos} {rest : List Expr} {s t : WT}
theorem st_tB {te : TE} {c : Expr} (h : PT X c (L2.tB te)) (i : ∀ σ H Q, cE X.K κ M .fz w σ H Q → te σ H Q) : ST X κ M c (tVal w) :=
  ST.of h fun σ H Q ⟨g, env, W, F, hw, post⟩ => i σ H _ ⟨g, env, _, F, hw, fun v H' g' env' d F' s r ⟨b, e, wb⟩ => by
    subst e
    exact ⟨b, r.toBl, post b H' g' env' F' s wb⟩⟩
theorem st_val (h : SE X κ M .fz a w) (he : ∀ whole, isTrue a X.env whole = (do let v ← whole; standAt a.pos; holding [v] (truthy v)) := by intro _; rfl) : ST X κ M a (tVal w) :=
  st_tB (pt_val h he) fun _ _ _ q => q
theorem st_cmp {op : CmpOp} {r : R2} {f : D → D → Option D} (ho : OpR X (compareOp op) r) (hf : OpD X.K r f .fz) (ha : SE X κ M ka a wa) (hb : SE X κ M kb b wb) (hm : behindInMarks op b = false) (hs : stable ka M = true := by rfl) (pa : ka.rdable = true := by rfl) (pb : kb.rdable = true := by rfl) :
    ST X κ M (.Compare a [op] [b] pos) (tVal (wOp2 f wa wb)) :=
  ST.of (pt_cmpR ho ha hb hm) fun σ H Q ⟨g, env, W, F, hw, post⟩ => ⟨g, env, _, F, hw, fun x H1 g1 e1 d1 F1 s1 r1 w1 => ⟨g1, e1, _, F1, w1, fun y H2 g2 e2 d2 F2 s2 r2 w2 => by
    obtain ⟨z, ez, bb, eb, wz⟩ := w2
    subst eb
    refine hf κ g2 e2 σ H2 x y d1 d2 _ _ F2 ((r1.step s2 F1 hs).rdb pa) (r2.rdb pb) ez fun v H3 g3 F3 s3 r3 => ?_
    have s12 := s1.tr s2 F F1
    exact ⟨bb, r3.toBl, post bb H3 g3 e2 F3 (s12.tr (s3.mono fun _ q => nomatch q) F F2) wz⟩⟩⟩
theorem st_not (h : ST X κ M a s) : ST X κ M (.UnaryOp .Not a pos) (tNot s) :=
  ST.of (pt_not h) fun σ H Q ⟨g, env, W, F, hw, post⟩ => ⟨g, env, _, F, hw, fun b H' g' env' F' s' w' => post (!b) H' g' env' F' s' w'⟩
def SW (X : Cx) (κ : List SK) (M : List Nat) (e : Expr) (w : WT) : Prop := PW X e (cT X.K κ M w)
theorem SW.of {c : Expr} {wt : WT} {t : TT} (h : PW X c t) (s : ∀ σ H Q, cT X.K κ M wt σ H Q → t σ H Q) : SW X κ M c wt := ⟨fun wh pins s0 σ H Q I q => h.run wh pins s0 σ H Q I (s σ H Q q)⟩
theorem SW.st (h : SW X κ M c s) : ST X κ M c s := ⟨h.run _⟩
theorem sw_and1 (h : ST X κ M a s) : SW X κ M (.BoolOp .And [a] pos) s := pw_and1 h
theorem sw_or1 (h : ST X κ M a s) : SW X κ M (.BoolOp .Or [a] pos) s := pw_or1 h
theorem sw_and (ha : ST X κ M a s) (hb : SW X κ M (.BoolOp .And (b :: rest) pos) t) : SW X κ M (.BoolOp .And (a :: b :: rest) pos) (tAnd s t) :=
  SW.of (pw_and ha hb) fun σ H Q ⟨g, env, W, F, hw, post⟩ => ⟨g, env, _, F, hw, fun b H' g' env' F' s' w' => by
    cases b with
    | true => exact ⟨g', env', _, F', w', fun b2 H2 g2 e2 F2 s2 w2 => post b2 H2 g2 e2 F2 (s'.tr s2 F F') w2⟩
    | false => exact post false H' g' env' F' s' w'⟩
theorem sw_or (ha : ST X κ M a s) (hb : SW X κ M (.BoolOp .Or (b :: rest) pos) t) : SW X κ M (.BoolOp .Or (a :: b :: rest) pos) (tOr s t) :=
  SW.of (pw_or ha hb) fun σ H Q ⟨g, env, W, F, hw, post⟩ => ⟨g, env, _, F, hw, fun b H' g' env' F' s' w' => by
    cases b with
    | false => exact ⟨g', env', _, F', w', fun b2 H2 g2 e2 F2 s2 w2 => post b2 H2 g2 e2 F2 (s'.tr s2 F F') w2⟩
    | true => exact post true H' g' env' F' s' w'⟩
theorem se_one {op} (h : SE X κ M k a w) : SE X κ M k (.BoolOp op [a] pos) w := pe_one h
theorem se_and (ha : SE X κ M .fz a wa) (hb : SE X κ M .fz (.BoolOp .And (b :: rest) pos) wb) : SE X κ M .fz (.BoolOp .And (a :: b :: rest) pos) (wAnd wa wb) :=
  SE.of (pe_and ha hb) fun σ H Q ⟨g, env, W, F, hw, post⟩ => ⟨g, env, _, F, hw, fun x H' g' env' d F' s' r ⟨c, e, w'⟩ => by
    subst e
    refine ⟨c, r.toBl, ?_⟩
    cases c with
    | true => exact ⟨g', env', _, F', w', fun v H2 g2 e2 d2 F2 s2 r2 w2 => post v H2 g2 e2 d2 F2 (s'.tr s2 F F') r2 w2⟩
    | false => exact post (.bl false) H' g' env' _ F' s' (.bl false) w'⟩
theorem se_not (ha : SE X κ M .fz a wa) : SE X κ M .fz (.UnaryOp .Not a pos) (wNot wa) :=
  SE.of (pe_not ha) fun σ H Q ⟨g, env, W, F, hw, post⟩ => ⟨g, env, _, F, hw, fun x H' g' env' d F' s' r ⟨c, e, w'⟩ => by
    subst e
    exact ⟨c, r.toBl, post (.bl (!c)) H' g' env' _ F' s' (.bl _) w'⟩⟩
end
end G7

set_option maxRecDepth 100000
namespace G7
open PySem PySem.Spec PyProof.Rows L2

def baseO (κ : List SK) (g : Rg) (a : Addr) : Prop := g.O a ∨ ∃ i, kindOf κ i = .q ∧ g.al i = some a
structure SStep (κ : List SK) (M : List Nat) (g g' : Rg) (H H' : Hp) : Prop where
  pu : ∀ a, g.P a → g'.P a
  pd : ∀ a, g'.P a → g.P a ∨ H a = none
  up : ∀ a, g.O a → g'.O a
  dn : ∀ a, g'.O a → g.O a ∨ H a = none
  al : ∀ i a, g'.al i = some a → g.al i = some a ∨ H a = none
  I : g'.I = g.I
  qs : ∀ i, kindOf κ i = .q → g'.al i = g.al i
  keep : ∀ b o, H b = some o → ¬ g.P b → (∀ i ∈ M, g.al i ≠ some b) → (999 ∈ M → g.O b ∨ ∀ xs, o ≠ .lst xs) → H' b = some o
  th : ∀ b, H b ≠ none → H' b ≠ none
  pool : ∀ b, g.P b → Pool H' b
def ResR (K : PySem.W.Frag) (κ : List SK) (k : RK) (g : Rg) (H H' : Hp) (v : V) (d : D) : Prop := match k with
  | .nw => ∃ p, v = .ref p ∧ (H p = none ∨ ∃ i, (kindOf κ i = .o ∨ kindOf κ i = .f) ∧ g.al i = some p) ∧ Obj1 K H' (fun a => baseO κ g a ∨ a = p) p d
  | _ => Rep K H' (baseO κ g) v d
def cS (K : PySem.W.Frag) (κ : List SK) (M : List Nat) (k : RK) (w : WS) : TS := fun D σ H => ∃ g env W, Frm K κ g env σ H ∧ w W env ∧
  (∀ g' env' σ' H', Frm K κ g' env' σ' H' → SStep κ M g g' H H' → W.nx env' → D.nx σ' H') ∧
  (∀ g' env' σ' H', Frm K κ g' env' σ' H' → SStep κ M g g' H H' → W.bk env' → D.bk σ' H') ∧
  (∀ g' env' σ' H', Frm K κ g' env' σ' H' → SStep κ M g g' H H' → W.ct env' → D.ct σ' H') ∧
  (∀ g' env' σ' H' v d, Frm K κ g' env' σ' H' → SStep κ M g g' H H' → ResR K κ k g H H' v d → W.rt d env' → D.rt v H')
def SS (X : Cx) (κ : List SK) (M : List Nat) (k : RK) (st : Stmt) (w : WS) : Prop := PS X st (cS X.K κ M k w)
def SSs (X : Cx) (κ : List SK) (M : List Nat) (k : RK) (st : List Stmt) (w : WS) : Prop := PSs X st (cS X.K κ M k w)

section
variable {K : PySem.W.Frag} {κ : List SK} {g g' g2 : Rg} {env env' env2 : En} {σ σ' σ2 : St} {H H' H2 : Hp} {M M' : List Nat} {v : V} {d : D} {k : RK}
theorem SStep.refl (f : Frm K κ g env σ H) : SStep κ M g g H H := ⟨fun _ h => h, fun _ h => .inl h, fun _ h => h, fun _ h => .inl h, fun _ _ h => .inl h, rfl, fun _ _ => rfl, fun _ _ h _ _ _ => h, fun _ h => h, fun b p => (f.pl b p).2⟩
theorem SStep.trans (h : SStep κ M g g' H H') (h2 : SStep κ M g' g2 H' H2) : SStep κ M g g2 H H2 := by
  have bk : ∀ a, H' a = none → H a = none := fun a e => by
    cases q : H a with
    | none => rfl
    | some o => exact absurd e (h.th a (by rw [q]; simp))
  refine ⟨fun a p => h2.pu a (h.pu a p), fun a p => (h2.pd a p).elim (h.pd a) fun e => .inr (bk a e), fun a p => h2.up a (h.up a p), fun a p => (h2.dn a p).elim (h.dn a) fun e => .inr (bk a e),
    fun i a p => (h2.al i a p).elim (h.al i a) fun e => .inr (bk a e), h2.I.trans h.I, fun i q => (h2.qs i q).trans (h.qs i q), fun b o e p q v => ?_, fun b e => h2.th b (h.th b e), fun b p => h2.pool b (h.pu b p)⟩
  refine h2.keep b o (h.keep b o e p q v) (fun z => (h.pd b z).elim p fun n => by rw [e] at n; cases n) (fun i hi z => ?_) fun h9 => (v h9).imp (h.up b) id
  rcases h.al i b z with n | n
  · exact q i hi n
  · rw [e] at n; cases n
theorem SStep.mono (h : SStep κ M g g' H H') (s : ∀ i ∈ M, i ∈ M') : SStep κ M' g g' H H' := ⟨h.pu, h.pd, h.up, h.dn, h.al, h.I, h.qs, fun b o e p q v => h.keep b o e p (fun i hi => q i (s i hi)) fun h9 => v (s _ h9), h.th, h.pool⟩
theorem EStep.toS (h : EStep M g g' H H') (f : Frm K κ g env σ H) (f' : Frm K κ g' env' σ' H') : SStep κ M g g' H H' := by
  refine ⟨fun a p => by rw [h.P]; exact p, fun a p => by rw [h.P] at p; exact .inl p, h.up, h.dn, fun i a e => by rw [h.al] at e; exact .inl e, h.I, fun i _ => by rw [h.al], fun b o e p q _ => h.keep b o e p q, fun b n e => ?_, fun b p => h.pool b p (f.pl b p).2⟩
  have : ∀ {σ1 : St}, Frm K κ g env σ1 H → True := fun _ => trivial
  cases q : H b with
  | none => exact n q
  | some o =>
    by_cases hp : g.P b
    · obtain ⟨x, y, z, r⟩ := h.pool b hp (f.pl b hp).2
      rw [r] at e; cases e
    · by_cases hm : ∀ i ∈ M, g.al i ≠ some b
      · rw [h.keep b o q hp hm] at e; cases e
      · have : ∃ i, i ∈ M ∧ g.al i = some b := by
          apply Classical.byContradiction
          intro c
          exact hm fun i hi z => c ⟨i, hi, z⟩
        obtain ⟨i, hi, z⟩ := this
        exact absurd e (f'.alo i b (by rw [h.al]; exact z)).2
theorem SStep.base (h : SStep κ M g g' H H') : ∀ a, baseO κ g a → baseO κ g' a := fun a q => by
  rcases q with q | ⟨i, hk, q⟩
  · exact .inl (h.up a q)
  · exact .inr ⟨i, hk, by rw [h.qs i hk]; exact q⟩
theorem baseO_own {a : Addr} (h : baseO κ g a) : g.own a := h.imp id fun ⟨i, _, e⟩ => ⟨i, e⟩
/-- an answer behind a step is one ahead of it -/
theorem ResR.back (h : SStep κ M g g' H H') (r : ResR K κ k g' H' H2 v d) : ResR K κ k g H H2 v d := by
  have less : ∀ {v d}, Rep K H2 (baseO κ g') v d → Rep K H2 (baseO κ g) v d := fun r => r.keep (fun _ _ _ q => q) fun a q => .inl (h.base a q)
  cases k with
  | fz => exact less r
  | rd => exact less r
  | ow i => exact less r
  | pl => exact less r
  | np => exact less r
  | nw =>
    obtain ⟨p, rfl, n, r⟩ := r
    refine ⟨p, rfl, ?_, r.keep (fun _ q => q) (fun _ _ _ q => q) fun a q => .inl (q.imp (h.base a) id)⟩
    rcases n with n | ⟨i, hk, e⟩
    · left
      cases q : H p with
      | none => rfl
      | some o => exact absurd n (h.th p (by rw [q]; simp))
    · rcases h.al i p e with z | z
      · exact .inr ⟨i, hk, z⟩
      · exact .inl z
end
section
variable {X : Cx} {κ : List SK} {M Me : List Nat} {k ke : RK} {st : Stmt} {sts : List Stmt} {e : Expr} {w wa : WE} {s t : WS} {pos : Pos}
theorem SS.of {t' : TS} (h : PS X st t') (i : ∀ D σ H, cS X.K κ M k s D σ H → t' D σ H) : SS X κ M k st s := ⟨fun pins s0 σ H D I q => h.run pins s0 σ H D I (i D σ H q)⟩
theorem SSs.of {t' : TS} (h : PSs X sts t') (i : ∀ D σ H, cS X.K κ M k s D σ H → t' D σ H) : SSs X κ M k sts s := ⟨fun pins s0 σ H D I q => h.run pins s0 σ H D I (i D σ H q)⟩
theorem SSs.imp {s' : WS} (h : SSs X κ M k sts s) (i : ∀ W en, s' W en → s W en) : SSs X κ M k sts s' := SSs.of h fun D σ H ⟨g, env, W, F, hw, r⟩ => ⟨g, env, W, F, i _ _ hw, r⟩
theorem SS.mono {M' : List Nat} (h : SS X κ M k st s) (m : ∀ i ∈ M, i ∈ M' := by decide) : SS X κ M' k st s := SS.of h fun D σ H ⟨g, env, W, F, hw, n, b, c, r⟩ =>
  ⟨g, env, W, F, hw, fun g' env' σ' H' F' s' => n g' env' σ' H' F' (s'.mono m), fun g' env' σ' H' F' s' => b g' env' σ' H' F' (s'.mono m), fun g' env' σ' H' F' s' => c g' env' σ' H' F' (s'.mono m), fun g' env' σ' H' v d F' s' => r g' env' σ' H' v d F' (s'.mono m)⟩
/-- what a statement does, going on behind a step -/
theorem cS.go {K : PySem.W.Frag} {g g1 : Rg} {env1 : En} {σ1 : St} {H H1 : Hp} {W1 : WD} (F1 : Frm K κ g1 env1 σ1 H1) (s1 : SStep κ M g g1 H H1) (hw : s W1 env1) {D' : Ends}
    (n : ∀ g' env' σ' H', Frm K κ g' env' σ' H' → SStep κ M g g' H H' → W1.nx env' → D'.nx σ' H') (b : ∀ g' env' σ' H', Frm K κ g' env' σ' H' → SStep κ M g g' H H' → W1.bk env' → D'.bk σ' H')
    (c : ∀ g' env' σ' H', Frm K κ g' env' σ' H' → SStep κ M g g' H H' → W1.ct env' → D'.ct σ' H') (r : ∀ g' env' σ' H' v d, Frm K κ g' env' σ' H' → SStep κ M g g' H H' → ResR K κ k g H H' v d → W1.rt d env' → D'.rt v H') : cS K κ M k s D' σ1 H1 :=
  ⟨g1, env1, W1, F1, hw, fun g' env' σ' H' F' s' => n g' env' σ' H' F' (s1.trans s'), fun g' env' σ' H' F' s' => b g' env' σ' H' F' (s1.trans s'), fun g' env' σ' H' F' s' => c g' env' σ' H' F' (s1.trans s'),
    fun g' env' σ' H' v d F' s' rr => r g' env' σ' H' v d F' (s1.trans s') (rr.back s1)⟩
theorem sss_nil : SSs X κ M k [] wNil := SSs.of pss_nil fun D σ H ⟨g, env, W, F, hw, n, _⟩ => n g env σ H F (.refl F) hw
theorem sss_cons (h1 : SS X κ M k st s) (h2 : SSs X κ M k sts t) : SSs X κ M k (st :: sts) (wSeq s t) :=
  SSs.of (pss_cons h1 h2) fun D σ H ⟨g, env, W, F, hw, n, b, c, r⟩ => ⟨g, env, _, F, hw, fun g' env' σ' H' F' s' w' => cS.go (K := X.K) (g := g) (H := H) (W1 := W) (D' := D) F' s' w' n b c r, b, c, r⟩
theorem sss_one (h1 : SS X κ M k st s) : SSs X κ M k [st] s := SSs.of (pss_one h1) fun _ _ _ q => q
theorem ss_if {c : Expr} {a b : List Stmt} {wt : WT} (hc : ST X κ Me c wt) (ha : SSs X κ M k a s) (hb : SSs X κ M k b t) (sub : ∀ i ∈ Me, i ∈ M := by decide) : SS X κ M k (.If c a b pos) (wIf wt s t) :=
  SS.of (ps_if hc ha hb) fun D σ H ⟨g, env, W, F, hw, n, b, c, r⟩ => ⟨g, env, _, F, hw, fun x H1 g1 e1 F1 s1 w1 => by
    have s1' := (s1.mono sub).toS F F1
    cases x with
    | true => exact cS.go (K := X.K) (g := g) (H := H) (W1 := W) (D' := D) F1 s1' w1 n b c r
    | false => exact cS.go (K := X.K) (g := g) (H := H) (W1 := W) (D' := D) F1 s1' w1 n b c r⟩
theorem ss_expr (he : SE X κ Me ke e w) (hs : swapsWith e none pos.line X.env = pure false := by rfl) (sub : ∀ i ∈ Me, i ∈ M := by decide) : SS X κ M k (.Expr e pos) (wExpr w) :=
  SS.of (ps_expr he hs) fun D σ H ⟨g, env, W, F, hw, n, b, c, r⟩ => ⟨g, env, _, F, hw, fun v H1 g1 e1 d F1 s1 _ w1 => n g1 e1 σ H1 F1 ((s1.mono sub).toS F F1) w1⟩
theorem ss_ret (he : SE X κ Me .fz e w) (sub : ∀ i ∈ Me, i ∈ M := by decide) : SS X κ M .fz (.Return (some e) pos) (wRet w) :=
  SS.of (ps_ret he) fun D σ H ⟨g, env, W, F, hw, n, b, c, r⟩ => ⟨g, env, _, F, hw, fun v H1 g1 e1 d F1 s1 r1 w1 => by
    have s1' := (s1.mono sub).toS F F1
    refine r g1 e1 σ H1 v d F1 s1' ?_ w1
    exact Rep.keep (fun _ _ _ q => q) (fun a q => .inl (baseO_own (s1'.base a q))) r1⟩
theorem ss_retw (he : SE X κ Me .nw e w) (sub : ∀ i ∈ Me, i ∈ M := by decide) : SS X κ M .nw (.Return (some e) pos) (wRet w) :=
  SS.of (ps_ret he) fun D σ H ⟨g, env, W, F, hw, n, b, c, r⟩ => ⟨g, env, _, F, hw, fun v H1 g1 e1 d F1 s1 ⟨p, e, np, hO, hP, r1⟩ w1 => by
    have s1' := (s1.mono sub).toS F F1
    refine r g1 e1 σ H1 v d F1 s1' ⟨p, e, .inl np, r1.keep (fun _ q => q) (fun _ _ _ q => q) fun a q => .inl ?_⟩ w1
    rcases q with q | q
    · exact baseO_own (s1'.base a q)
    · subst q; exact .inl hO⟩
theorem ss_retof {i : Nat} (he : SE X κ Me (.ow i) e w) (hk : kindOf κ i = .o) (sub : ∀ i ∈ Me, i ∈ M := by decide) : SS X κ M .fz (.Return (some e) pos) (wRet w) :=
  SS.of (ps_ret he) fun D σ H ⟨g, env, W, F, hw, n, b, c, r⟩ => ⟨g, env, _, F, hw, fun v H1 g1 e1 d F1 s1 ⟨p, e, ea, r1⟩ w1 => by
    have s1' := (s1.mono sub).toS F F1
    subst e
    refine r g1 e1 σ H1 _ d F1 s1' ((r1.keep (S' := baseO κ g) (fun _ q => q) (fun _ _ _ q => q) fun a q => .inl (baseO_own (s1'.base a q))).rep fun q => ?_) w1
    rcases s1'.base p q with z | ⟨j, hj, z⟩
    · exact (F1.alo i p ea).1 z
    · have := F1.inj i j p ea z
      subst this
      rw [hk] at hj; cases hj⟩
theorem Frm.set {K : PySem.W.Frag} {g : Rg} {env : En} {σ : St} {H : Hp} (F : Frm K κ g env σ H) {i : Nat} {v : V} {d : D} (s : SlotK K g H (kindOf κ i) i v d) : Frm K κ g (env.set i (some d)) (σ.set i (some v)) H := by
  refine ⟨by simp [F.ln], by simp [F.sl], fun j d' e => ?_, F.inj, F.alo', F.ot', F.il, F.pl⟩
  by_cases hj : i = j
  · subst hj
    have hi : i < env.length := by
      apply Classical.byContradiction
      intro c
      rw [List.getElem?_eq_none (by simpa using c)] at e; cases e
    rw [List.getElem?_set_self hi] at e
    cases e
    exact ⟨v, by rw [List.getElem?_set_self (by rw [F.sl, ← F.ln]; exact hi)], s⟩
  · rw [List.getElem?_set_ne hj] at e
    obtain ⟨v', e1, s'⟩ := F.ev j d' e
    exact ⟨v', by rw [List.getElem?_set_ne hj]; exact e1, s'⟩
theorem ss_tAsg {i : Nat} (h : PS X st (tAsg (cE X.K κ Me .fz w) (gName i))) (hk : kindOf κ i = .v) (sub : ∀ i ∈ Me, i ∈ M) : SS X κ M k st (wAsg i w) :=
  SS.of h fun D σ H ⟨g, env, W, F, hw, n, b, c, r⟩ => ⟨g, env, _, F, hw, fun v H1 g1 e1 d F1 s1 r1 w1 =>
    n g1 _ _ H1 (F1.set (by rw [hk]; exact r1)) ((s1.mono sub).toS F F1) w1⟩
/-- a new thing becomes a slot's own -/
theorem Frm.take {K : PySem.W.Frag} {g g1 : Rg} {env env1 : En} {σ : St} {H H1 : Hp} {i : Nat} {p : Addr} {d : D} (F : Frm K κ g env σ H) (F1 : Frm K κ g1 env1 σ H1) (s : EStep Me g g1 H H1) (sub : ∀ i ∈ Me, i ∈ M) (hi : i ∈ M) (hk : kindOf κ i = .o ∨ kindOf κ i = .f) (n : H p = none) (hO : g1.O p) (hP : ¬ g1.P p) (r : Obj1 K H1 g1.own p d) :
    ∃ g', Frm K κ g' (env1.set i (some d)) (σ.set i (some (.ref p))) H1 ∧ SStep κ M g g' H H1 := by
  have s1 := (s.mono sub).toS F F1
  have npal : ∀ j, g1.al j ≠ some p := fun j e => (F1.alo j p e).1 hO
  have nO : ¬ g.O p := fun q => F.ot p q n
  have own : ∀ a, Rg.own ⟨g.O, g1.P, g1.I, fun j => if j = i then some p else g1.al j⟩ a → g1.own a := fun a q => by
    rcases q with q | ⟨j, q⟩
    · exact .inl (s.up a q)
    · simp only at q
      split at q
      · cases q; exact .inl hO
      · exact .inr ⟨j, q⟩
  refine ⟨⟨g.O, g1.P, g1.I, fun j => if j = i then some p else g1.al j⟩, ⟨by simp [F1.ln], by simp [F1.sl], fun j d' e => ?_, fun j j' a e e' => ?_, fun j a e => ?_, fun a q => F1.ot' a (s.up a q), fun a q => F.il a (by rw [← s.I]; exact q), fun a q => ?_⟩, ⟨s1.pu, s1.pd, fun _ q => q, fun _ q => .inl q, fun j a e => ?_, s1.I, fun j q => ?_, s1.keep, s1.th, s1.pool⟩⟩
  · by_cases hj : i = j
    · subst hj
      have hl : i < env1.length := by
        apply Classical.byContradiction
        intro c
        rw [List.getElem?_eq_none (by simpa using c)] at e; cases e
      rw [List.getElem?_set_self hl] at e
      cases e
      have so : ∃ a, V.ref p = .ref a ∧ (if i = i then some p else g1.al i) = some a ∧ Obj1 K H1 (Rg.own ⟨g.O, g1.P, g1.I, fun j => if j = i then some p else g1.al j⟩) a d := ⟨p, rfl, by simp, r.keep (fun _ q => q) (fun _ _ _ q => q) fun a q => .inl (own a q)⟩
      refine ⟨.ref p, by rw [List.getElem?_set_self (by rw [F1.sl, ← F1.ln]; exact hl)], ?_⟩
      rcases hk with hk | hk <;> rw [hk]
      · exact so
      · exact .inl so
    · rw [List.getElem?_set_ne hj] at e
      obtain ⟨v', e1, s'⟩ := F1.ev j d' e
      refine ⟨v', by rw [List.getElem?_set_ne hj]; exact e1, ?_⟩
      have hj' : j ≠ i := fun z => hj z.symm
      cases hkj : kindOf κ j <;> rw [hkj] at s' <;> unfold SlotK at s' ⊢ <;> simp only at s' ⊢
      · exact s'
      · exact Rep.keep (fun _ _ _ q => q) (fun a q => .inl (own a q)) s'
      · rcases s' with s' | ⟨a, rfl, np, na, s'⟩
        · exact .inl (Rep.keep (fun _ _ _ q => q) (fun a q => .inl (own a q)) s')
        · exact .inr ⟨a, rfl, np, na, s'.keep (fun _ q => q) (fun _ _ _ q => q) fun a q => .inl (own a q)⟩
      · obtain ⟨a, rfl, ea, s'⟩ := s'
        exact ⟨a, rfl, by simp [hj', ea], s'.keep (fun _ q => q) (fun _ _ _ q => q) fun a q => .inl (own a q)⟩
      · obtain ⟨a, rfl, ea, s'⟩ := s'
        exact ⟨a, rfl, by simp [hj', ea], s'.keep (fun _ q => q) (fun _ _ _ q => q) fun a q => .inl (own a q)⟩
      · exact s'
      · rcases s' with ⟨a, rfl, ea, s'⟩ | ⟨d', e', s'⟩
        · exact .inl ⟨a, rfl, by simp [hj', ea], s'.keep (fun _ q => q) (fun _ _ _ q => q) fun a q => .inl (own a q)⟩
        · exact .inr ⟨d', e', Rep.keep (fun _ _ _ q => q) (fun a q => .inl (own a q)) s'⟩
  · simp only at e e'
    split at e <;> split at e'
    · rename_i h1 h2; rw [h1, h2]
    · cases e; exact absurd e' (npal j')
    · cases e'; exact absurd e (npal j)
    · exact F1.inj j j' a e e'
  · simp only at e
    split at e
    · cases e; exact ⟨nO, r.tk⟩
    · obtain ⟨h1, h2⟩ := F1.alo' j a e
      exact ⟨fun q => h1 (s.up a q), h2⟩
  · rw [show g1.P a = g.P a from by rw [s.P]] at q
    exact ⟨(F.pl a q).1, (F1.pl a (by rw [s.P]; exact q)).2⟩
  · simp only at e
    split at e
    · cases e; exact .inr n
    · rw [s.al] at e; exact .inl e
  · have hj : j ≠ i := fun z => by rcases hk with hk | hk <;> rw [z, hk] at q <;> cases q
    simp [hj, s.al]
end
end G7

set_option maxRecDepth 100000
namespace G7
open PySem PySem.Spec PyProof.Rows L2

section
variable {X : Cx} {κ : List SK} {M Me : List Nat} {k ke : RK} {st : Stmt} {sts : List Stmt} {e : Expr} {w wa : WE} {s t : WS} {pos : Pos}
theorem ss_tAsgO {i : Nat} (h : PS X st (tAsg (cE X.K κ Me .nw w) (gName i))) (hk : kindOf κ i = .o) (hi : i ∈ M) (sub : ∀ i ∈ Me, i ∈ M) : SS X κ M k st (wAsg i w) :=
  SS.of h fun D σ H ⟨g, env, W, F, hw, n, b, c, r⟩ => ⟨g, env, _, F, hw, fun v H1 g1 e1 d F1 s1 ⟨p, e, np, hO, hP, r1⟩ w1 => by
    subst e
    obtain ⟨g2, F2, s2⟩ := Frm.take F F1 s1 sub hi (.inl hk) np hO hP r1
    exact n g2 _ _ H1 F2 s2 w1⟩
/-- a new list of three ints becomes a pool -/
def wAsgP (i : Nat) (a : WE) : WS := fun W e => a e fun d e1 => ∃ x y z : Int, d = .list [.int x, .int y, .int z] ∧ W.nx (e1.set i (some .none))
theorem ss_tAsgP {i : Nat} (h : PS X st (tAsg (cE X.K κ Me .nw w) (gName i))) (hk : kindOf κ i = .p) (sub : ∀ i ∈ Me, i ∈ M) : SS X κ M k st (wAsgP i w) :=
  SS.of h fun D σ H ⟨g, env, W, F, hw, n, b, c, r⟩ => ⟨g, env, _, F, hw, fun v H1 g1 e1 d F1 s1 ⟨p, e, np, hO, hP, r1⟩ ⟨x, y, z, ed, w1⟩ => by
    subst e ed
    have st1 := (s1.mono sub).toS F F1
    cases r1 with
    | lst e zl al =>
      cases al with | cons r1 al => cases al with | cons r2 al => cases al with | cons r3 al => cases al with | nil =>
      have pl : Pool H1 p := ⟨x, y, z, by rw [e, r1.toInt, r2.toInt, r3.toInt]⟩
      have F2 : Frm X.K κ { g1 with P := fun a => g1.P a ∨ a = p } e1 σ H1 := by
        refine ⟨F1.ln, F1.sl, fun j d' ej => ?_, F1.inj, F1.alo', F1.ot', F1.il, fun a q => ?_⟩
        · obtain ⟨v', e1, s'⟩ := F1.ev j d' ej
          refine ⟨v', e1, ?_⟩
          cases hkj : kindOf κ j <;> rw [hkj] at s' <;> unfold SlotK at s' ⊢ <;> simp only at s' ⊢
          · exact s'
          · exact s'
          · rcases s' with s' | ⟨a, rfl, np', na, s'⟩
            · exact .inl s'
            · refine .inr ⟨a, rfl, fun q => q.elim np' fun z => ?_, na, s'⟩
              subst z
              exact F.ot a (F.il a (by rw [← s1.I]; exact na)) np
          · exact s'
          · exact s'
          · obtain ⟨a, rfl, q, s'⟩ := s'; exact ⟨a, rfl, .inl q, s'⟩
          · exact s'
        · rcases q with q | q
          · exact F1.pl a q
          · subst q; exact ⟨hO, pl⟩
      refine n { g1 with P := fun a => g1.P a ∨ a = p } _ _ H1 (F2.set (by rw [hk]; exact ⟨p, rfl, .inr rfl, rfl⟩)) ⟨fun a q => .inl (st1.pu a q), fun a q => q.elim (st1.pd a) fun z => .inr (by rw [z]; exact np), st1.up, st1.dn, st1.al, st1.I, st1.qs, st1.keep, st1.th, st1.pool⟩ w1⟩
def Off (ts : List Nat) (σ σ' : St) : Prop := σ'.length = σ.length ∧ ∀ j, j ∉ ts → σ'[j]? = σ[j]?
def isTupE : Expr → Bool
  | .Tuple _ _ _ => true
  | _ => false
/-- an item of a walk; under a written tuple it may be any tuple just laid -/
def RepI (K : PySem.W.Frag) (H : Hp) (S : Addr → Prop) (b : Bool) (v : V) (d : D) : Prop := Rep K H S v d ∨ (b = true ∧ ∃ T vs ds, v = .ref T ∧ d = .tuple ds ∧ Rd H T (.tup vs) ∧ RepAll K H S vs ds)
def cG (K : PySem.W.Frag) (κ : List SK) (ts : List Nat) (tb : Bool) (f : WG) : TG := fun v σ H Q => ∃ g env d env', Frm K κ g env σ H ∧ RepI K H g.own tb v d ∧ f d env = some env' ∧ ∀ σ', Frm K κ g env' σ' H → Off ts σ σ' → Q σ' H
def SG (X : Cx) (κ : List SK) (ts : List Nat) (e : Expr) (f : WG) : Prop := PG X e (cG X.K κ ts (isTupE e) f)
theorem SG.of {f : WG} {ts : List Nat} {t : TG} (h : PG X e t) (i : ∀ v σ H Q, cG X.K κ ts (isTupE e) f v σ H Q → t v σ H Q) : SG X κ ts e f := ⟨fun pins s σ H v u Q I r q => h.run pins s σ H v u Q I r (i v σ H Q q)⟩
theorem sg_name {i : Nat} {x : Str} (h : PG X (.Name x pos) (gName i)) (hk : kindOf κ i = .v) : SG X κ [i] (.Name x pos) (gN i) :=
  SG.of h fun v σ H Q ⟨g, env, d, env', F, r, e, q⟩ => by
    cases e
    have r : Rep X.K H g.own v d := r.elim id fun z => Bool.noConfusion z.1
    exact q _ (F.set (by rw [hk]; exact r)) ⟨by simp, fun j hj => by rw [List.getElem?_set_ne (fun z => hj (by simp [z]))]⟩
def cGs (K : PySem.W.Frag) (κ : List SK) (ts : List Nat) (fs : List WG) : TGs := fun vs σ H Q => ∃ g env ds env', Frm K κ g env σ H ∧ RepAll K H g.own vs ds ∧ gAll fs ds env = some env' ∧ ∀ σ', Frm K κ g env' σ' H → Off ts σ σ' → Q σ' H
def SGs (X : Cx) (κ : List SK) (ts : List Nat) (es : List Expr) (fs : List WG) : Prop := PGs X es (cGs X.K κ ts fs)
theorem SGs.of {es : List Expr} {ts : List Nat} {fs : List WG} {t : TGs} (h : PGs X es t) (i : ∀ v σ H Q, cGs X.K κ ts fs v σ H Q → t v σ H Q) : SGs X κ ts es fs := ⟨fun pins s σ H v u Q I r q => h.run pins s σ H v u Q I r (i v σ H Q q)⟩
theorem sgs_nil : SGs X κ [] [] [] := SGs.of pgs_nil fun vs σ H Q ⟨g, env, ds, env', F, r, e, q⟩ => by
  cases ds with
  | nil => cases r; simp [gAll] at e; subst e; exact ⟨rfl, q σ F ⟨rfl, fun _ _ => rfl⟩⟩
  | cons _ _ => simp [gAll] at e
theorem sgs_cons {es : List Expr} {ts us : List Nat} {f : WG} {fs : List WG} (h1 : SG X κ ts e f) (h2 : SGs X κ us es fs) (hs : (assignEach (e :: es) X.env).map (·.2) = assign e X.env :: (assignEach es X.env).map (·.2) := by rfl) : SGs X κ (ts ++ us) (e :: es) (f :: fs) :=
  SGs.of (pgs_cons h1 h2 hs) fun vs σ H Q ⟨g, env, ds, env', F, r, e, q⟩ => by
    cases ds with
    | nil => simp [gAll] at e
    | cons d ds =>
      cases r with
      | cons r rs =>
        simp only [gAll, Option.bind_eq_some_iff] at e
        obtain ⟨e1, h1, h2⟩ := e
        exact ⟨_, _, rfl, g, env, d, e1, F, .inl r, h1, fun σ' F' o => ⟨g, e1, ds, env', F', rs, h2, fun σ2 F2 o2 => q σ2 F2 ⟨o2.1.trans o.1, fun j hj => (o2.2 j fun z => hj (List.mem_append_right _ z)).trans (o.2 j fun z => hj (List.mem_append_left _ z))⟩⟩⟩
theorem sg_tup {es : List Expr} {ts : List Nat} {fs : List WG} {j : Nat} (hc : X.calm = true) (h : SGs X κ ts es fs) (hn : (assignEach es X.env).length = fs.length := by rfl) (hst : (assignEach es X.env).findIdx? (·.1) = none := by rfl) : SG X κ ts (.Tuple es j pos) (gT fs) :=
  SG.of (pg_tup hc h hn hst) fun v σ H Q ⟨g, env, d, env', F, r, e, q⟩ => by
    cases d with
    | tuple ds =>
      have r : ∃ a xs, v = .ref a ∧ SqT X.K H a xs ∧ RepAll X.K H g.own xs ds := by
        rcases r with r | ⟨_, T, vs, ds', ev, ed, q, al⟩
        · obtain ⟨a, xs, rfl, ta, z, al⟩ := r.toTup
          exact ⟨a, xs, rfl, sqT_of ta, al⟩
        · cases ed
          exact ⟨T, vs, ev, .inl q, al⟩
      obtain ⟨a, xs, rfl, ta, al⟩ := r
      refine ⟨a, xs, rfl, ta, ?_, g, env, ds, env', F, al, e, q⟩
      have : ∀ (fs : List WG) (ds : List D) (env : En), gAll fs ds env = some env' → ds.length = fs.length := by
        intro fs
        induction fs with
        | nil => intro ds env h; cases ds with
          | nil => rfl
          | cons _ _ => simp [gAll] at h
        | cons f fs ih => intro ds env h; cases ds with
          | nil => simp [gAll] at h
          | cons d ds =>
            simp only [gAll, Option.bind_eq_some_iff] at h
            obtain ⟨e1, _, h2⟩ := h
            simp [ih ds e1 h2]
      rw [al.length]
      exact this fs ds env e
    | _ => simp [gT] at e
theorem ss_set {i : Nat} {x : Str} {pos' : Pos} (hN : X.N.Nodup) (hi : X.N[i]? = some x) (hx : Loc X.env.scope x) (he : SE X κ Me .fz e w) (hk : kindOf κ i = .v) (hs : swapsWith e (some (.Name x pos')) pos.line X.env = pure false := by rfl) (sub : ∀ i ∈ Me, i ∈ M := by decide)
    (hf : X.fn x = true ∨ X.env.scope.names.lookup x = some .local := by first | exact .inl rfl | exact .inr rfl | assumption) : SS X κ M k (.Assign [.Name x pos'] e pos) (wAsg i w) := ss_tAsg (ps_set hN hi hx he hs hf) hk sub
theorem ss_setO {i : Nat} {x : Str} {pos' : Pos} (hN : X.N.Nodup) (hi : X.N[i]? = some x) (hx : Loc X.env.scope x) (he : SE X κ Me .nw e w) (hk : kindOf κ i = .o) (hs : swapsWith e (some (.Name x pos')) pos.line X.env = pure false := by rfl) (hm : i ∈ M := by decide) (sub : ∀ i ∈ Me, i ∈ M := by decide)
    (hf : X.fn x = true ∨ X.env.scope.names.lookup x = some .local := by first | exact .inl rfl | exact .inr rfl | assumption) : SS X κ M k (.Assign [.Name x pos'] e pos) (wAsg i w) := ss_tAsgO (ps_set hN hi hx he hs hf) hk hm sub
theorem ss_setP {i : Nat} {x : Str} {pos' : Pos} (hN : X.N.Nodup) (hi : X.N[i]? = some x) (hx : Loc X.env.scope x) (he : SE X κ Me .nw e w) (hk : kindOf κ i = .p) (hs : swapsWith e (some (.Name x pos')) pos.line X.env = pure false := by rfl) (sub : ∀ i ∈ Me, i ∈ M := by decide)
    (hf : X.fn x = true ∨ X.env.scope.names.lookup x = some .local := by first | exact .inl rfl | exact .inr rfl | assumption) : SS X κ M k (.Assign [.Name x pos'] e pos) (wAsgP i w) := ss_tAsgP (ps_set hN hi hx he hs hf) hk sub
/-- the thing of slot i is written anew -/
theorem Frm.put {K : PySem.W.Frag} {g : Rg} {env : En} {σ : St} {H : Hp} {i : Nat} {a : Addr} {d : D} {o : HO} (F : Frm K κ g env σ H) (hk : kindOf κ i = .o ∨ kindOf κ i = .q) (ea : g.al i = some a) (es : σ[i]? = some (some (.ref a))) (mt : ∀ xs, H a ≠ some (.tup xs))
    (r : Obj1 K (upd H a o) g.own a d) : Frm K κ g (env.set i (some d)) σ (upd H a o) := by
  have off : ∀ b x, ¬ g.own b → H b = some x → (upd H a o) b = some x := fun b x n e => by
    rw [upd_ne (fun z => n (by rw [z]; exact .inr ⟨i, ea⟩))]; exact e
  have nO := (F.alo i a ea).1
  have oth : ∀ b x, b ≠ a → H b = some x → (upd H a o) b = some x := fun b x n e => by rw [upd_ne n]; exact e
  have th : ∀ b, Tk H b → Tk (upd H a o) b := fun b n => by
    by_cases h : b = a
    · subst h; exact r.tk
    · exact n.of fun o e => by rw [upd_ne h]; exact e
  refine ⟨by simp [F.ln], F.sl, fun j d' e => ?_, F.inj, fun j b e => ⟨(F.alo' j b e).1, th b (F.alo' j b e).2⟩, fun b q => th b (F.ot' b q), F.il, fun b q => ⟨(F.pl b q).1, ?_⟩⟩
  · by_cases hj : i = j
    · subst hj
      have hi : i < env.length := by
        apply Classical.byContradiction
        intro c
        rw [List.getElem?_eq_none (by simpa using c)] at e; cases e
      rw [List.getElem?_set_self hi] at e
      cases e
      refine ⟨.ref a, es, ?_⟩
      rcases hk with hk | hk <;> rw [hk] <;> exact ⟨a, rfl, ea, r⟩
    · rw [List.getElem?_set_ne hj] at e
      obtain ⟨v, e1, s⟩ := F.ev j d' e
      refine ⟨v, e1, ?_⟩
      have own : ∀ b, g.own b → g.own b ∨ H b = none := fun _ q => .inl q
      have nal : ∀ b, g.al j = some b → b ≠ a := fun b e z => hj (F.inj i j a ea (by rw [← z]; exact e))
      cases hkj : kindOf κ j <;> rw [hkj] at s <;> unfold SlotK at s ⊢ <;> simp only at s ⊢
      · exact s
      · exact Rep.keep off own s
      · rcases s with s | ⟨b, rfl, np, na, s⟩
        · exact .inl (Rep.keep off own s)
        · exact .inr ⟨b, rfl, np, na, s.keep (fun x q => oth b x (fun z => nO (by rw [← z]; exact F.il b na)) q) off own⟩
      · obtain ⟨b, rfl, eb, s⟩ := s
        exact ⟨b, rfl, eb, s.keep (fun x q => oth b x (nal b eb) q) off own⟩
      · obtain ⟨b, rfl, eb, s⟩ := s
        exact ⟨b, rfl, eb, s.keep (fun x q => oth b x (nal b eb) q) off own⟩
      · exact s
      · rcases s with ⟨b, rfl, eb, s⟩ | ⟨d', e', s⟩
        · exact .inl ⟨b, rfl, eb, s.keep (fun x q => oth b x (nal b eb) q) off own⟩
        · exact .inr ⟨d', e', Rep.keep off own s⟩
  · obtain ⟨x, y, z, e⟩ := (F.pl b q).2
    exact ⟨x, y, z, oth b _ (fun z => nO (by rw [← z]; exact (F.pl b q).1)) e⟩
theorem EStep.put {g : Rg} {K : PySem.W.Frag} {env : En} {σ : St} {H : Hp} {i : Nat} {a : Addr} {o : HO} (F : Frm K κ g env σ H) (ea : g.al i = some a) (hi : i ∈ M) : EStep M g g H (upd H a o) := by
  refine ⟨rfl, rfl, rfl, fun _ q => q, fun _ q => .inl q, fun b x e p q => by rw [upd_ne (fun z => q i hi (by rw [z]; exact ea))]; exact e, fun b p ⟨x, y, z, e⟩ => ⟨x, y, z, ?_⟩⟩
  rw [upd_ne (fun z => (F.alo i a ea).1 (by rw [← z]; exact (F.pl b p).1))]; exact e
/-- what a method of a list does, by values and over data; z is told for good -/
def MtD (K : PySem.W.Frag) (r : V → List V → Hp → VK → Prop) (f : List D → List D → Option (D × List D)) (ks : List RK) : Prop := ∀ (κ : List SK) (g : Rg) (env : En) (σ : St) (H0 H : Hp) (a : Addr) (xs : List V) (dxs ds dxs' : List D) (vs : List V) (z : D) (Q : VK),
  Frm K κ g env σ H → g.own a → H a = some (.lst xs) → xs.length ≤ sizeLine → RepAll K H g.own xs dxs → ResA K g H0 H ks vs ds → f dxs ds = some (z, dxs') →
  (∀ v xs', RepAll K H g.own xs' dxs' → xs'.length ≤ sizeLine → Rep K H g.own v z → Q v (upd H a (.lst xs'))) → r (.ref a) vs H Q
theorem mut_go {i : Nat} {Ma : List Nat} {ks : List RK} {wl : WA} {T : String} {r : V → List V → Hp → VK → Prop} {f : List D → List D → Option (D × List D)} (hf : MtD X.K r f ks) (hk : kindOf κ i = .o ∨ kindOf κ i = .q) (hi : i ∈ M) (subA : ∀ i ∈ Ma, i ∈ M) (hT : T = "list") (σ : St) (H : Hp) (Q : VK)
    (h : cE X.K κ M .fz (wMut i f wl) σ H Q) : tBM X.K T r (tVar i) (cA X.K κ Ma ks wl) σ H Q := by
  subst hT
  obtain ⟨g, env, W, F, hw, post⟩ := h
  unfold tBM tVar
  obtain ⟨⟨xs0, e0⟩, hw⟩ := hw
  obtain ⟨v0, sv, sl⟩ := F.ev i _ e0
  have sl' : ∃ a, v0 = .ref a ∧ g.al i = some a ∧ Obj1 X.K H g.own a (.list xs0) := by rcases hk with hk | hk <;> rw [hk] at sl <;> exact sl
  obtain ⟨a, rfl, ea, ob⟩ := sl'
  refine ⟨_, sv, ?_, g, env, _, F, hw, fun vs H1 g1 e1 ds F1 s1 r1 w1 => ?_⟩
  · cases ob with | lst q z al => exact .inl ⟨rfl, _, .inl (.inl q)⟩
  · obtain ⟨dxs, z, dxs', e2, ef, w1⟩ := w1
    obtain ⟨v1, sv1, sl1⟩ := F1.ev i _ e2
    rw [sv] at sv1; cases sv1
    have sl1' : ∃ a', V.ref a = .ref a' ∧ g1.al i = some a' ∧ Obj1 X.K H1 g1.own a' (.list dxs) := by rcases hk with hk | hk <;> rw [hk] at sl1 <;> exact sl1
    obtain ⟨a', ee, ea1, ob1⟩ := sl1'
    cases ee
    cases ob1 with
    | lst q zl al =>
      refine hf κ g1 e1 σ H H1 a _ dxs ds dxs' vs z Q F1 (.inr ⟨i, ea1⟩) q zl al r1 ef fun v xs' al' zl' rz => ?_
      have off : ∀ b x, ¬ g1.own b → H1 b = some x → (upd H1 a (.lst xs')) b = some x := fun b x n e => by
        rw [upd_ne (fun z => n (by rw [z]; exact .inr ⟨i, ea1⟩))]; exact e
      exact post v _ g1 _ z (F1.put hk ea1 sv (fun ys z => by rw [q] at z; cases z) (.lst upd_same zl' (al'.keep off fun _ q => .inl q))) ((s1.mono subA).tr (.put F1 ea1 hi) F F1) (Rep.keep off (fun _ q => .inl q) rz) w1
theorem se_mut {i : Nat} {Ma : List Nat} {x name : Str} {id : String} {ks : List RK} {wl : WA} {r : V → List V → Hp → VK → Prop} {f : List D → List D → Option (D × List D)} {px apos cpos : Pos} {es : List Expr} (slot : Slot "list" name id) (hty : typeOf (.builtin id) = pure (.type "method_descriptor")) (hm : MtR X id r) (hf : MtD X.K r f ks)
    (ho : PE X (.Name x px) (tVar i)) (ha : SA X κ Ma ks (e :: es) wl) (hk : kindOf κ i = .o ∨ kindOf κ i = .q) (hi : i ∈ M := by decide) (subA : ∀ i ∈ Ma, i ∈ M := by decide) (hbase : attributeBase (.Name x px) name X.env (eval (.Name x px) X.env) = eval (.Name x px) X.env := by rfl)
    (hfew : ((backTo cpos (starEach (e :: es) X.env)).all (fun x => !x.1) && (backToKw cpos (keywordEach [] X.env)).all (fun x => x.1.isSome)
      && decide ((e :: es).length + ([] : List Keyword).length + (if ([] : List Keyword).isEmpty then 0 else 1) < 30)) = true := by rfl)
    (hline : (apos.endLine == cpos.line) = true := by rfl) (hs : starEach (e :: es) X.env = (false, eval e X.env) :: starEach es X.env := by rfl) (hplain : (backTo cpos (starEach es X.env)).any (·.1) = false := by rfl) :
    SE X κ M .fz (.Call (.Attribute (.Name x px) name apos) (e :: es) [] cpos) (wMut i f wl) :=
  SE.of (pe_bm PySem.F.plainAttrs_list slot hty hm ho ha hbase hfew hline hs hplain) (mut_go hf hk hi subA rfl)
theorem ss_while {c : Expr} {body : List Stmt} {wt : WT} (hp : PassesOwn (model X.prog X.w) X.A X.env X.xe) (hc : ST X κ Me c wt) (hb : SSs X κ M k body s) (sub : ∀ i ∈ Me, i ∈ M := by decide) : SS X κ M k (.While c body [] pos) (wWhile wt s) :=
  SS.of (ps_while hp hc hb) fun D σ H ⟨g, env, W, F, ⟨m0, hw⟩, n, b, c, r⟩ => by
    refine ⟨fun m σ' H' => ∃ g' env', Frm X.K κ g' env' σ' H' ∧ SStep κ M g g' H H' ∧ whileN wt s W m env', ⟨m0, g, env, F, .refl F, hw⟩, ?_⟩
    rintro m σ1 H1 ⟨g1, e1, F1, s1, w1⟩
    cases m with
    | zero => exact w1.elim
    | succ m =>
      refine ⟨g1, e1, _, F1, w1, fun x H2 g2 e2 F2 s2 w2 => ?_⟩
      have s12 := s1.trans ((s2.mono sub).toS F1 F2)
      cases x with
      | false => exact n g2 e2 σ1 H2 F2 s12 w2
      | true =>
        refine ⟨fun σ' H' => ∃ g' env', Frm X.K κ g' env' σ' H' ∧ SStep κ M g g' H H' ∧ whileN wt s W m env', fun σ' H' q => ⟨m, Nat.lt_succ_self m, q⟩, ?_⟩
        refine ⟨g2, e2, _, F2, w2, fun g' env' σ' H' F' s' q => ⟨g', env', F', s12.trans s', q⟩, fun g' env' σ' H' F' s' q => n g' env' σ' H' F' (s12.trans s') q, fun g' env' σ' H' F' s' q => ⟨g', env', F', s12.trans s', q⟩, fun g' env' σ' H' v d F' s' rr q => r g' env' σ' H' v d F' (s12.trans s') (rr.back s12) q⟩
end
end G7

set_option maxRecDepth 100000
namespace G7
open PySem PySem.Spec PyProof.Rows L2

/-- the walk's items, as long as the sources L stand -/
structure Walk (K : PySem.W.Frag) (J : It) (tb : Bool) (xs : List D) (L : Rg → Hp → Prop) : Prop where
  go : ∀ g H i, L g H → (∀ a, g.own a → H a ≠ none) → i < xs.length → J.go i H
  yd : ∀ g H i v H', L g H → (∀ a, g.own a → H a ≠ none) → i < xs.length → J.yld i H v H' → (∀ b o, H b = some o → H' b = some o) ∧ ∃ x, xs[i]? = some x ∧ RepI K H' g.own tb v x
  stop : ∀ g H, L g H → J.stop xs.length H
  lenL : ∀ g H, L g H → xs.length ≤ sizeLine
def Holds (κ : List SK) (N : List Nat) (L : Rg → Hp → Prop) : Prop := ∀ (K : PySem.W.Frag) M g g' env env' σ σ' H H', (∀ i ∈ M, i ∉ N) → Frm K κ g env σ H → Frm K κ g' env' σ' H' → SStep κ M g g' H H' → L g H → L g' H'
def cI (K : PySem.W.Frag) (κ : List SK) (M N : List Nat) (tb : Bool) (w : WI) : TI := fun σ H R => ∃ g env W, Frm K κ g env σ H ∧ w env W ∧
  ∀ J H' g' env' xs L, Frm K κ g' env' σ H' → EStep M g g' H H' → L g' H' → Holds κ N L → Walk K J tb xs L → W xs env' → R J H'
def SI (X : Cx) (κ : List SK) (M N : List Nat) (tg iter : Expr) (w : WI) : Prop := PI X tg iter (cI X.K κ M N (isTupE tg) w)
theorem SI.of {X : Cx} {κ : List SK} {M N : List Nat} {tg iter : Expr} {w : WI} {t : TI} (h : PI X tg iter t) (i : ∀ σ H R, cI X.K κ M N (isTupE tg) w σ H R → t σ H R) : SI X κ M N tg iter w := ⟨fun pins s σ H R I q => h.run pins s σ H R I (i σ H R q)⟩

section
variable {X : Cx} {κ : List SK} {M Me Mt N : List Nat} {k : RK} {e tg iter : Expr} {w : WE} {s : WS} {wi : WI} {f : WG} {ts : List Nat} {pos : Pos}
theorem ss_for {body : List Stmt} (hp : PassesOwn (model X.prog X.w) X.A X.env X.xe) (hc : X.calm = true) (hi : SI X κ Me N tg iter wi) (hg : SG X κ ts tg f) (hb : SSs X κ M k body s) (dis : ∀ i ∈ M, i ∉ N := by decide) (sub : ∀ i ∈ Me, i ∈ M := by decide)
    (hs : ∀ x, foldedSetIterable iter X.env x = pure x := by intro _; rfl) : SS X κ M k (.For tg iter body [] pos) (wFor wi f s) :=
  SS.of (ps_for hp hc hi hg hb hs) fun D σ H ⟨g, env, W, F, hw, n, b, c, r⟩ => ⟨g, env, _, F, hw, fun J H1 g1 e1 xs L F1 s1 L1 hL wk w1 => by
    have s1' := (s1.mono sub).toS F F1
    refine ⟨fun i m σ' H' => m = xs.length - i ∧ i ≤ xs.length ∧ ∃ g' env', Frm X.K κ g' env' σ' H' ∧ SStep κ M g1 g' H1 H' ∧ forL f s W (xs.drop i) env', ⟨xs.length, by simp, Nat.zero_le _, g1, e1, F1, .refl F1, by simpa using w1⟩, ?_⟩
    rintro i m σ2 H2 ⟨rfl, hi2, g2, e2, F2, s2, w2⟩
    have L2 := hL X.K M g1 g2 e1 e2 σ σ2 H1 H2 dis F1 F2 s2 L1
    by_cases hlt : i < xs.length
    · refine .inr ⟨wk.go g2 H2 i L2 (fun a => F2.own_ne) hlt, fun σ' H' => i < xs.length ∧ ∃ g' env', Frm X.K κ g' env' σ' H' ∧ SStep κ M g1 g' H1 H' ∧ forL f s W (xs.drop (i + 1)) env', fun σ' H' q => ⟨xs.length - (i + 1), by omega, rfl, by omega, q.2⟩, fun v H3 y => ?_⟩
      obtain ⟨kp, x, ex, rx⟩ := wk.yd g2 H2 i v H3 L2 (fun a => F2.own_ne) hlt y
      have F3 : Frm X.K κ g2 e2 σ2 H3 := F2.same kp
      have s3 : SStep κ M g1 g2 H1 H3 := s2.trans ((EStep.same (M := M) (g := g2) kp).toS F2 F3)
      have ed : xs.drop i = x :: xs.drop (i + 1) := by
        rw [List.drop_eq_getElem_cons hlt]
        rw [List.getElem?_eq_getElem hlt] at ex
        cases ex; rfl
      rw [ed] at w2
      obtain ⟨e3, ee, w3⟩ := w2
      refine ⟨g2, e2, x, e3, F3, rx, ee, fun σ4 F4 _ => ?_⟩
      have s4 : SStep κ M g1 g2 H1 H3 := s3
      refine ⟨g2, e3, _, F4, w3, fun g' env' σ' H' F' s' q => ⟨hlt, g', env', F', s4.trans s', q⟩, fun g' env' σ' H' F' s' q => n g' env' σ' H' F' (s1'.trans (s4.trans s')) q, fun g' env' σ' H' F' s' q => ⟨hlt, g', env', F', s4.trans s', q⟩,
        fun g' env' σ' H' v d F' s' rr q => r g' env' σ' H' v d F' (s1'.trans (s4.trans s')) ((rr.back s4).back s1') q⟩
    · have e : i = xs.length := by omega
      subst e
      rw [List.drop_length] at w2
      exact .inl ⟨wk.stop g2 H2 L2, n g2 e2 σ2 H2 F2 (s1'.trans s2) w2⟩⟩
theorem wp_len (e : En) : ∀ vs : List Nat, (wp e vs).length = e.length
  | [] => rfl
  | v :: vs => by unfold wp; rw [List.length_set, wp_len e vs]
theorem back_len (e e2 : En) : ∀ vs : List Nat, (back e e2 vs).length = e2.length
  | [] => rfl
  | v :: vs => by unfold back; rw [List.length_set, back_len e e2 vs]
theorem wp_get {e : En} {i : Nat} {d : D} : ∀ {vs : List Nat}, (wp e vs)[i]? = some (some d) → e[i]? = some (some d) ∧ i ∉ vs
  | [], h => ⟨h, by simp⟩
  | v :: vs, h => by
    unfold wp at h
    by_cases hi : v = i
    · subst hi
      by_cases hv : v < (wp e vs).length
      · rw [List.getElem?_set_self hv] at h; cases h
      · rw [List.getElem?_eq_none (by simpa using hv)] at h; cases h
    · rw [List.getElem?_set_ne hi] at h
      obtain ⟨h1, h2⟩ := wp_get h
      exact ⟨h1, by simp only [List.mem_cons, not_or]; exact ⟨fun z => hi z.symm, h2⟩⟩
theorem back_get {e e2 : En} {i : Nat} {d : D} : ∀ {vs : List Nat}, (back e e2 vs)[i]? = some (some d) → (i ∈ vs ∧ e[i]? = some (some d)) ∨ (i ∉ vs ∧ e2[i]? = some (some d))
  | [], h => .inr ⟨by simp, h⟩
  | v :: vs, h => by
    unfold back at h
    by_cases hi : v = i
    · subst hi
      by_cases hv : v < (back e e2 vs).length
      · rw [List.getElem?_set_self hv] at h
        left
        refine ⟨by simp, ?_⟩
        have h' : (e[v]?).getD none = some d := Option.some.inj h
        cases q : e[v]? with
        | none => rw [q] at h'; cases h'
        | some x => rw [q] at h'; simp at h'; rw [h']
      · rw [List.getElem?_eq_none (by simpa using hv)] at h; cases h
    · rw [List.getElem?_set_ne hi] at h
      rcases back_get h with ⟨h1, h2⟩ | ⟨h1, h2⟩
      · exact .inl ⟨by simp [h1], h2⟩
      · exact .inr ⟨by simp only [List.mem_cons, not_or]; exact ⟨fun z => hi z.symm, h1⟩, h2⟩
theorem wipe_get {σ : St} {i : Nat} : ∀ {vs : List Nat}, i ∉ vs → (wipe σ vs)[i]? = σ[i]?
  | [], _ => rfl
  | v :: vs, h => by
    simp only [List.mem_cons, not_or] at h
    unfold wipe
    rw [List.getElem?_set_ne (fun z => h.1 z.symm)]
    exact wipe_get h.2
theorem Frm.wp {K : PySem.W.Frag} {g : Rg} {env : En} {σ : St} {H : Hp} (F : Frm K κ g env σ H) (vs : List Nat) : Frm K κ g (G7.wp env vs) (wipe σ vs) H :=
  ⟨by rw [wp_len]; exact F.ln, by rw [wipe_length]; exact F.sl, fun i d e => by
    obtain ⟨e1, n⟩ := wp_get e
    obtain ⟨v, e2, s⟩ := F.ev i d e1
    exact ⟨v, by rw [wipe_get n]; exact e2, s⟩, F.inj, F.alo', F.ot', F.il, F.pl⟩
theorem Frm.back {K : PySem.W.Frag} {g g1 : Rg} {e1 e2 : En} {σ : St} {H H1 : Hp} {vs : List Nat} (F1 : Frm K κ g1 e1 σ H1) (s : EStep M g1 g H1 H) (F : Frm K κ g e2 (wipe σ vs) H) (hv : ∀ i ∈ vs, kindOf κ i = .v) : Frm K κ g (G7.back e1 e2 vs) σ H :=
  ⟨by rw [back_len]; exact F.ln, F1.sl, fun i d e => by
    rcases back_get e with ⟨hi, e1⟩ | ⟨hi, e1⟩
    · obtain ⟨v, e2, sl⟩ := F1.ev i d e1
      rw [hv i hi] at sl ⊢
      exact ⟨v, e2, Rep.keep (s.off F1) s.own sl⟩
    · obtain ⟨v, e2, sl⟩ := F.ev i d e1
      rw [wipe_get hi] at e2
      exact ⟨v, e2, sl⟩, F.inj, F.alo', F.ot', F.il, F.pl⟩
theorem wipe_off {σ σ' : St} : ∀ {vs : List Nat}, Off vs (wipe σ vs) σ' → wipe σ' vs = wipe σ vs := fun {vs} ⟨hl, h⟩ => by
  apply List.ext_getElem?
  intro i
  by_cases hi : i ∈ vs
  · have z : ∀ (τ : St) (us : List Nat), i ∈ us → i < τ.length → (wipe τ us)[i]? = some none := by
      intro τ us
      induction us with
      | nil => intro h; simp at h
      | cons u us ih =>
        intro h hl
        unfold wipe
        by_cases hu : u = i
        · subst hu; rw [List.getElem?_set_self (by rw [wipe_length]; exact hl)]
        · rw [List.getElem?_set_ne hu]
          exact ih ((List.mem_cons.mp h).resolve_left fun z => hu z.symm) hl
    have hl' : σ'.length = σ.length := by rw [hl, wipe_length]
    by_cases hb : i < σ.length
    · rw [z σ' vs hi (by omega), z σ vs hi hb]
    · rw [List.getElem?_eq_none (by rw [wipe_length]; omega), List.getElem?_eq_none (by rw [wipe_length]; omega)]
  · rw [wipe_get hi, h i hi]
theorem Off.mono {ts us : List Nat} {σ σ' : St} (h : Off ts σ σ') (s : ∀ i ∈ ts, i ∈ us) : Off us σ σ' := ⟨h.1, fun j hj => h.2 j fun z => hj (s j z)⟩
theorem Frm.upd {K : PySem.W.Frag} {g : Rg} {env : En} {σ : St} {H : Hp} {a : Addr} {o : HO} (F : Frm K κ g env σ H) (hO : g.O a) (hP : ¬ g.P a) (hI : ¬ g.I a) (ht : ∀ xs, o ≠ .tup xs := by intro _ h; cases h) : Frm K κ g env σ (upd H a o) := by
  have off : ∀ b x, ¬ g.own b → H b = some x → (L2.upd H a o) b = some x := fun b x n e => by
    rw [upd_ne (fun z => n (by rw [z]; exact .inl hO))]; exact e
  have oth : ∀ b x, b ≠ a → H b = some x → (L2.upd H a o) b = some x := fun b x n e => by rw [upd_ne n]; exact e
  have th : ∀ b, Tk H b → Tk (L2.upd H a o) b := fun b n => by
    by_cases h : b = a
    · subst h; exact ⟨by rw [upd_same]; simp, fun xs z => by rw [upd_same] at z; exact ht xs (Option.some.inj z)⟩
    · exact n.of fun o e => by rw [upd_ne h]; exact e
  have own : ∀ b, g.own b → g.own b ∨ H b = none := fun _ q => .inl q
  refine ⟨F.ln, F.sl, fun j d' e => ?_, F.inj, fun j b e => ⟨(F.alo' j b e).1, th b (F.alo' j b e).2⟩, fun b q => th b (F.ot' b q), F.il, fun b q => ⟨(F.pl b q).1, ?_⟩⟩
  · obtain ⟨v, e1, s⟩ := F.ev j d' e
    refine ⟨v, e1, ?_⟩
    have nal : ∀ b, g.al j = some b → b ≠ a := fun b e z => (F.alo j b e).1 (by rw [z]; exact hO)
    cases hkj : kindOf κ j <;> rw [hkj] at s <;> unfold SlotK at s ⊢ <;> simp only at s ⊢
    · exact s
    · exact Rep.keep off own s
    · rcases s with s | ⟨b, rfl, np, na, s⟩
      · exact .inl (Rep.keep off own s)
      · exact .inr ⟨b, rfl, np, na, s.keep (fun x q => oth b x (fun z => hI (by rw [← z]; exact na)) q) off own⟩
    · obtain ⟨b, rfl, eb, s⟩ := s
      exact ⟨b, rfl, eb, s.keep (fun x q => oth b x (nal b eb) q) off own⟩
    · obtain ⟨b, rfl, eb, s⟩ := s
      exact ⟨b, rfl, eb, s.keep (fun x q => oth b x (nal b eb) q) off own⟩
    · exact s
    · rcases s with ⟨b, rfl, eb, s⟩ | ⟨d', e', s⟩
      · exact .inl ⟨b, rfl, eb, s.keep (fun x q => oth b x (nal b eb) q) off own⟩
      · exact .inr ⟨d', e', Rep.keep off own s⟩
  · obtain ⟨x, y, z, e⟩ := (F.pl b q).2
    exact ⟨x, y, z, oth b _ (fun z => hP (by rw [← z]; exact q)) e⟩
theorem comp_go {K : PySem.W.Frag} {tb : Bool} {vs : List Nat} {t : WT} (hv : ∀ i ∈ vs, kindOf κ i = .v) (hts : ∀ i ∈ ts, i ∈ vs) (dis : ∀ i ∈ M, i ∉ N) (σ : St) (H : Hp) (Q : VK)
    (h : cE K κ M .nw (wComp wi f vs t w) σ H Q) : tLc (cI K κ M N tb wi) (cG K κ ts tb f) (cT K κ M t) (cE K κ M .fz w) vs σ H Q := by
  obtain ⟨g, env, W, F, hw, post⟩ := h
  refine ⟨g, env, _, F, hw, fun J H1 g1 e1 xs L F1 s1 L1 hL wk w1 Da hD => ?_⟩
  have FD := F1.new (o := HO.lst []) hD
  have sD : EStep M g1 (g1.add Da) H1 (upd H1 Da (.lst [])) := .new hD
  have nDo : ¬ g1.own Da := fun q => F1.own_ne q hD
  refine ⟨fun i m H' => m = xs.length - i ∧ i ≤ xs.length ∧ ∃ g' env' acc das, Frm K κ g' env' (wipe σ vs) H' ∧ EStep M g1 g' H1 H' ∧ g'.O Da ∧ ¬ g'.P Da ∧ H' Da = some (.lst acc) ∧ acc.length ≤ i ∧ RepAll K H' g'.own acc das ∧
    compL f vs t w (fun acc e2 => W (.list acc) (G7.back e1 e2 vs)) (xs.drop i) das env', ⟨xs.length, by simp, Nat.zero_le _, g1.add Da, _, [], [], FD.wp vs, sD, .inr rfl, fun q => nDo (F1.p_own q), upd_same, Nat.le_refl _, .nil, by simpa using w1⟩, ?_⟩
  rintro i m H2 ⟨rfl, hi, g2, e2, acc, das, F2, s2, hO, hP, hA, hacc, ra, w2⟩
  have s2' : SStep κ M g1 g2 H1 H2 := s2.toS F1 F2
  have L2 := hL K M g1 g2 e1 e2 σ (wipe σ vs) H1 H2 dis F1 F2 s2' L1
  by_cases hlt : i < xs.length
  · refine .inr ⟨wk.go g2 H2 i L2 (fun a => F2.own_ne) hlt, fun H' => i < xs.length ∧ ∃ g' env' acc das, Frm K κ g' env' (wipe σ vs) H' ∧ EStep M g1 g' H1 H' ∧ g'.O Da ∧ ¬ g'.P Da ∧ H' Da = some (.lst acc) ∧ acc.length ≤ i + 1 ∧ RepAll K H' g'.own acc das ∧
      compL f vs t w (fun acc e2 => W (.list acc) (G7.back e1 e2 vs)) (xs.drop (i + 1)) das env', fun H' q => ⟨xs.length - (i + 1), by omega, rfl, by omega, q.2⟩, fun v H3 y => ?_⟩
    obtain ⟨kp, x, ex, rx⟩ := wk.yd g2 H2 i v H3 L2 (fun a => F2.own_ne) hlt y
    have F3 : Frm K κ g2 e2 (wipe σ vs) H3 := F2.same kp
    have s3 : EStep M g1 g2 H1 H3 := s2.tr (EStep.same kp) F1 F2
    have ed : xs.drop i = x :: xs.drop (i + 1) := by
      rw [List.drop_eq_getElem_cons hlt]
      rw [List.getElem?_eq_getElem hlt] at ex
      cases ex; rfl
    rw [ed] at w2
    obtain ⟨e3, ee, w3⟩ := w2
    refine ⟨g2, e2, x, e3, F3, rx, ee, fun σ4 F4 o4 => ⟨wipe_off (o4.mono hts), g2, e3, _, F4, w3, fun c H5 g5 e5 F5 s5 w5 => ?_⟩⟩
    have s15 : EStep M g1 g5 H1 H5 := s3.tr s5 F1 F3
    have hO5 := s5.up Da hO
    have hP5 : ¬ g5.P Da := by rw [s5.P]; exact hP
    have keepD : ∀ {Ha Hb : Hp} {ga gb : Rg} {ea : En} {σa : St}, Frm K κ ga ea σa Ha → EStep M ga gb Ha Hb → ga.O Da → ¬ ga.P Da → ∀ o, Ha Da = some o → Hb Da = some o := fun {Ha Hb ga gb ea σa} Fa sa ho hp o e => sa.keep Da o e hp fun j _ z => (Fa.alo j Da z).1 ho
    have hA5 : H5 Da = some (.lst acc) := keepD F3 s5 hO hP _ (kp _ _ hA)
    have ra5 : RepAll K H5 g5.own acc das := (ra.keep (fun a o _ e => kp a o e) fun _ q => .inl q).keep (s5.off F3) s5.own
    have ew : wipe σ4 vs = wipe σ vs := wipe_off (o4.mono hts)
    cases c with
    | false =>
      refine ⟨hlt, g5, _, acc, das, ?_, s15, hO5, hP5, hA5, by omega, ra5, w5⟩
      rw [← ew]; exact F5.wp vs
    | true =>
      refine ⟨g5, e5, _, F5, w5, fun u H6 g6 e6 d6 F6 s6 r6 w6 => ?_⟩
      have hO6 := s6.up Da hO5
      have hP6 : ¬ g6.P Da := by rw [s6.P]; exact hP5
      have hA6 : H6 Da = some (.lst acc) := keepD F5 s6 hO5 hP5 _ hA5
      have ra6 : RepAll K H6 g6.own acc das := ra5.keep (s6.off F5) s6.own
      have zx : xs.length ≤ sizeLine := wk.lenL g2 H2 L2
      refine ⟨acc, hA6, by omega, ?_⟩
      have nI : ¬ g6.I Da := fun z => by
        have z' : g1.I Da := by rw [← (s15.tr s6 F1 F5).I]; exact z
        exact F1.ot Da (F1.il Da z') hD
      have s16 := s15.tr s6 F1 F5
      have F7 : Frm K κ g6 (G7.wp e6 vs) (wipe σ vs) (upd H6 Da (.lst (acc ++ [u]))) := by
        rw [← ew]
        exact (F6.upd hO6 hP6 nI).wp vs
      have off : ∀ a o, ¬ g6.own a → H6 a = some o → (upd H6 Da (.lst (acc ++ [u]))) a = some o := fun a o n e => by rw [upd_ne (fun z => n (by rw [z]; exact .inl hO6))]; exact e
      refine ⟨hlt, g6, _, acc ++ [u], das ++ [d6], F7, ⟨s16.al, s16.P, s16.I, s16.up, s16.dn, fun b o e p q => ?_, fun b p q => ?_⟩, hO6, hP6, upd_same, by simp; omega, (ra6.append (.cons r6 .nil)).keep off fun _ q => .inl q, w6⟩
      · rw [upd_ne (ne_of_none e hD)]; exact s16.keep b o e p q
      · obtain ⟨x, y, z, e⟩ := s16.pool b p q
        exact ⟨x, y, z, by rw [upd_ne (fun z => hP6 (by rw [s16.P, ← z]; exact p))]; exact e⟩
  · have e : i = xs.length := by omega
    subst e
    rw [List.drop_length] at w2
    refine .inl ⟨wk.stop g2 H2 L2, ?_⟩
    have F5 := F1.back s2 F2 hv
    refine post (.ref Da) H2 g2 _ (.list das) F5 (s1.tr s2 F F1) ⟨Da, rfl, s1.there F F1 hD, hO, hP, .lst hA ?_ ra⟩ w2
    exact Nat.le_trans hacc (wk.lenL g2 H2 L2)
end
end G7

set_option maxRecDepth 100000
namespace G7
open PySem PySem.Spec PyProof.Rows L2

section
variable {K : PySem.W.Frag} {κ : List SK} {g : Rg} {env : En} {σ : St} {H : Hp} {S : Addr → Prop} {v : V} {p : Addr} {vs : List V} {ds : List D} {Q : VK}
theorem RdB.toInt {i : Int} (r : RdB K H S v (.int i)) : v = .int i := r.elim Rep.toInt fun ⟨_, _, q⟩ => by cases q
theorem RdB.toBl {i : Bool} (r : RdB K H S v (.bool i)) : v = .bl i := r.elim Rep.toBl fun ⟨_, _, q⟩ => by cases q
theorem RdB.toNon (r : RdB K H S v .none) : v = .non := r.elim Rep.toNon fun ⟨_, _, q⟩ => by cases q
theorem RdB.toLst (r : RdB K H S v (.list ds)) : ∃ a xs, v = .ref a ∧ Rd H a (.lst xs) ∧ xs.length ≤ sizeLine ∧ RepAll K H S xs ds := by
  rcases r with r | ⟨a, e, r⟩
  · cases r with | lst n q z al => exact ⟨_, _, rfl, .inl q, z, al⟩
  · cases r with | lst q z al => exact ⟨_, _, e, q, z, al⟩
theorem RdB.toTup (r : RdB K H S v (.tuple ds)) : ∃ a xs, v = .ref a ∧ ((¬ S a ∧ Rd H a (.tup xs)) ∨ KTup K a xs) ∧ xs.length ≤ sizeLine ∧ RepAll K H S xs ds := by
  rcases r with r | ⟨a, e, r⟩
  · exact r.toTup
  · cases r
theorem RdB.xtRep (r : RdB K H S v (xtD ds)) : Rep K H S v (xtD ds) := by
  rcases r with r | ⟨a, e, r⟩
  · exact r
  · exact r.noXt.elim
theorem RdB.toTupO {d : D} (h : tupOf d = some ds) (r : RdB K H S v d) : ∃ a xs, v = .ref a ∧ ((¬ S a ∧ Rd H a (.tup xs)) ∨ KTup K a xs) ∧ xs.length ≤ sizeLine ∧ RepAll K H S xs ds := by
  rcases tupOf_cases h with rfl | rfl
  · exact r.toTup
  · exact Rep.toTupO (d := xtD ds) rfl r.xtRep
theorem RdB.tupRep (r : RdB K H S v (.tuple ds)) : Rep K H S v (.tuple ds) := by
  rcases r with r | ⟨a, e, r⟩
  · exact r
  · cases r
theorem ok_lst (F : Frm K κ g env σ H) (al : RepAll K H g.own vs ds) (z : vs.length ≤ sizeLine) (np : H p = none) (h : ∀ v H' g', Frm K κ g' env σ H' → EStep [] g g' H H' → Res K g' .fz H H' v (.list ds) → Q v H') : Q (.ref p) (upd H p (.lst vs)) :=
  h _ _ g (F.new0 np) (.new0 np) (.lst (fun q => F.own_ne q np) upd_same z (al.keep (fun a o _ e => same_new np a o e) fun _ q => .inl q))
theorem ok_lstN (F : Frm K κ g env σ H) (al : RepAll K H g.own vs ds) (z : vs.length ≤ sizeLine) (np : H p = none) (h : ∀ v H' g', Frm K κ g' env σ H' → EStep [] g g' H H' → Res K g' .nw H H' v (.list ds) → Q v H') : Q (.ref p) (upd H p (.lst vs)) :=
  h _ _ (g.add p) (F.new np) (.new np) ⟨p, rfl, np, .inr rfl, fun q => F.own_ne (F.p_own q) np, .lst upd_same z (al.keep (fun a o _ e => same_new np a o e) fun a q => (Rg.add_own.mp q).imp id fun e => by rw [e]; exact np)⟩
theorem ok_tup (F : Frm K κ g env σ H) (al : RepAll K H g.own vs ds) (z : vs.length ≤ sizeLine) (np : H p = none) {o : HO} (m : MkT o vs) (h : ∀ v H' g', Frm K κ g' env σ H' → EStep [] g g' H H' → Res K g' .fz H H' v (.tuple ds) → Q v H') : Q (.ref p) (upd H p o) :=
  h _ _ g (F.new0 np) (.new0 np) (.tup (fun q => F.own_ne q np) (m.rdT al.length upd_same) z (al.keep (fun a o _ e => same_new np a o e) fun _ q => .inl q))
theorem ok_same {d : D} (F : Frm K κ g env σ H) (r : Rep K H g.own v d) (h : ∀ v H' g', Frm K κ g' env σ H' → EStep [] g g' H H' → Res K g' .fz H H' v d → Q v H') : Q v H := h v H g F .refl r
end
mutual
theorem Rep.dp {K : PySem.W.Frag} {H : Hp} {S : Addr → Prop} : ∀ {d : D} {v : V}, Rep K H S v d → d.canLay0 = true → Dp K H v d
  | _, _, .non, _ => .non
  | _, _, .bl b, _ => .bl b
  | _, _, .int i, _ => .int i
  | _, _, .str x, _ => .str x
  | _, _, .lst n r z al, h => .lst (.inl (.inl r)) (al.dp (by simpa [PyData.canLay0] using h))
  | _, _, .tup n r z al, h => .tup (sqT_of (.inl ⟨n, rdT_rd r⟩)) (al.dp (by simpa [PyData.canLay0] using h))
  | _, _, .dK n r al, h => by simp [PyData.canLay0] at h
  | _, _, .dT n r al, h => by simp [PyData.canLay0] at h
  | _, _, .xt n r e z al, h => by simp [PyData.canLay0] at h
theorem RepAll.dp {K : PySem.W.Frag} {H : Hp} {S : Addr → Prop} : ∀ {ds : List D} {vs : List V}, RepAll K H S vs ds → PyData.canLayAll0 ds = true → DpAll K H vs ds
  | _, _, .nil, _ => .nil
  | _, _, .cons r t, h => by
    simp only [PyData.canLayAll0, Bool.and_eq_true] at h
    exact .cons (r.dp h.1) (t.dp h.2)
end
theorem RdB.dp {K : PySem.W.Frag} {H : Hp} {S : Addr → Prop} {v : V} {d : D} (r : RdB K H S v d) (h : okD d = true) : Dp K H v d := by
  have hc : d.canLay0 = true := SeqAt.canLay_of_shaped h
  rcases r with r | ⟨a, rfl, r⟩
  · exact r.dp hc
  · cases r with
    | lst q z al => exact .lst (.inl q) (al.dp (by simpa [PyData.canLay0] using hc))
    | dK q al => simp [PyData.canLay0] at hc
    | dT q al => simp [PyData.canLay0] at hc
section
variable {X : Cx}
/-- + of lists that may be read -/
def rCatR : R2 := fun x y H Q => ∃ l b xs zs, x = .ref l ∧ y = .ref b ∧ Rd H l (.lst xs) ∧ Rd H b (.lst zs) ∧ xs.length + zs.length ≤ sizeLine ∧ ∀ p, H p = none → Q (.ref p) (upd H p (.lst (xs ++ zs)))
theorem op_catR : OpR X (binaryOp .Add) rCatR := by
  intro pins s σ H x y v u Q I rx ry h
  obtain ⟨l, b, xs, zs, rfl, rfl, hH, hB, hz, q⟩ := h
  cases rx
  cases ry
  obtain ⟨z, its, n, r, e⟩ := hH.ok I.hok
  obtain ⟨z2, its2, n2, r2, e2⟩ := hB.ok I.hok
  have h1 := r.length
  have h2 := r2.length
  refine PySem.P.add_list e e2 ?_ (by rw [List.size_toArray, List.size_toArray]; omega)
  have ea : its.toArray ++ its2.toArray = (its ++ its2).toArray := by simp
  rw [ea]
  exact ⟨.ref _, _, I.lnew (t' := s.toks) (r.append r2) (by rw [List.length_append]; omega), rfl, q _ I.fresh⟩
/-- t + u, as it is laid -/
def rCatM (K : PySem.W.Frag) : R2 := fun x y H Q => ∃ a b xs ys, x = .ref a ∧ y = .ref b ∧ SqT K H a xs ∧ SqT K H b ys ∧ xs.length + ys.length ≤ sizeLine ∧
  (xs = [] → Q (.ref b) H) ∧ (xs ≠ [] → ys = [] → Q (.ref a) H) ∧ (xs ≠ [] → ys ≠ [] → ∀ p o, H p = none → MkT o (xs ++ ys) → Q (.ref p) (upd H p o))
theorem op_catM : OpR X (binaryOp .Add) (rCatM X.K) := by
  intro pins s σ H x y v u Q I rx ry h
  obtain ⟨a, b, xs, ys, rfl, rfl, ha, hb, hz, q0, q1, q2⟩ := h
  by_cases hx : xs = []
  · subst hx
    exact op_catA pins s σ H _ _ v u Q I rx ry ⟨a, b, [], ys, rfl, rfl, ha, hb, hz, q0, fun c => absurd rfl c, fun c => absurd rfl c⟩
  · cases rx; cases ry
    obtain ⟨its, ra, pa, _⟩ := I.tuple ha
    obtain ⟨jts, rb, pb, _⟩ := I.tuple hb
    refine HT.cat_tup pa pb (fun c => hx (ra.nil_iff.mp c)) (fun c => ⟨.ref a, H, I, rfl, q1 hx (rb.nil_iff.mp c)⟩) (fun c => ?_) (by rw [← ra.length, ← rb.length]; exact hz)
    obtain ⟨o, m, J⟩ := mk_laid I (ra.append rb) (by rw [List.length_append]; exact hz) rfl
    exact ⟨.ref s.heap.objs.size, _, J, rfl, q2 hx (fun e => c (rb.nil_iff.mpr e)) _ o (I.hok.fresh (Nat.le_refl _)) m⟩
def rAddF (K : PySem.W.Frag) : R2 := fun x y H Q => rI0 (fun i j => .int (i + j)) x y H Q ∨ rCatR x y H Q ∨ rCatM K x y H Q
theorem op_addF : OpR X (binaryOp .Add) (rAddF X.K) := op_add.or (op_catR.or op_catM)
theorem od_add {K : PySem.W.Frag} : OpD K (rAddF K) addD .fz := by
  intro κ g env σ H x y dx dy dz Q F rx ry e h
  cases dx <;> cases dy <;> simp only [addD] at e <;> first
    | (cases e; rw [rx.toInt, ry.toInt]; exact .inl ⟨_, _, rfl, rfl, ok_same F (.int _) h⟩)
    | (split at e
       · rename_i hl
         cases e
         first
           | (obtain ⟨a, xs, rfl, ra, za, la⟩ := rx.toLst
              obtain ⟨b, ys, rfl, rb, zb, lb⟩ := ry.toLst
              have hz : xs.length + ys.length ≤ sizeLine := by rw [la.length, lb.length]; exact lim_line hl
              exact .inr (.inl ⟨a, b, xs, ys, rfl, rfl, ra, rb, hz, fun p np => ok_lst F (la.append lb) (by rw [List.length_append]; exact hz) np h⟩))
           | (have ta := rx.tupRep
              have tb := ry.tupRep
              obtain ⟨a, xs, rfl, ra, za, la⟩ := rx.toTup
              obtain ⟨b, ys, rfl, rb, zb, lb⟩ := ry.toTup
              have hz : xs.length + ys.length ≤ sizeLine := by rw [la.length, lb.length]; exact lim_line hl
              refine .inr (.inr ⟨a, b, xs, ys, rfl, rfl, sqT_of ra, sqT_of rb, hz, fun ex => ?_, fun _ ey => ?_, fun _ _ p o np m => ok_tup F (la.append lb) (by rw [List.length_append]; exact hz) np m h⟩)
              · subst ex; cases la; exact ok_same F tb h
              · subst ey; cases lb; simp only [List.append_nil] at h; exact ok_same F ta h)
       · cases e)
    | cases e
def addLD : D → D → Option D
  | .list a, .list b => if a.length + b.length ≤ lim then some (.list (a ++ b)) else none
  | _, _ => none
theorem od_sub {K : PySem.W.Frag} : OpD K (rI0 fun i j => .int (i - j)) subD .fz := by
  intro κ g env σ H x y dx dy dz Q F rx ry e h
  cases dx <;> cases dy <;> simp only [subD] at e <;> first
    | (cases e; rw [rx.toInt, ry.toInt]; exact ⟨_, _, rfl, rfl, ok_same F (.int _) h⟩)
    | cases e
theorem od_fdiv {K : PySem.W.Frag} : OpD K (rI CDiv fun i j => .int (i / j)) fdivD .fz := by
  intro κ g env σ H x y dx dy dz Q F rx ry e h
  cases dx <;> cases dy <;> simp only [fdivD] at e <;> first
    | (split at e
       · rename_i hm
         cases e; rw [rx.toInt, ry.toInt]; exact ⟨_, _, rfl, rfl, hm, ok_same F (.int _) h⟩
       · cases e)
    | cases e
theorem od_mod {K : PySem.W.Frag} : OpD K (rI (fun _ j => 0 < j) fun i j => .int (i % j)) modD .fz := by
  intro κ g env σ H x y dx dy dz Q F rx ry e h
  cases dx <;> cases dy <;> simp only [modD] at e <;> first
    | (split at e
       · rename_i hm
         cases e; rw [rx.toInt, ry.toInt]; exact ⟨_, _, rfl, rfl, hm, ok_same F (.int _) h⟩
       · cases e)
    | cases e
theorem od_pow {K : PySem.W.Frag} : OpD K (rI CPow fun i j => .int (i ^ j.toNat)) powD .fz := by
  intro κ g env σ H x y dx dy dz Q F rx ry e h
  cases dx <;> cases dy <;> simp only [powD] at e <;> first
    | (split at e
       · rename_i hm
         cases e; rw [rx.toInt, ry.toInt]; exact ⟨_, _, rfl, rfl, hm, ok_same F (.int _) h⟩
       · cases e)
    | cases e
theorem od_icmp {K : PySem.W.Frag} (p : Int → Int → Bool) : OpD K (rI0 fun i j => .bl (p i j)) (icmp p) .fz := by
  intro κ g env σ H x y dx dy dz Q F rx ry e h
  cases dx <;> cases dy <;> simp only [icmp] at e <;> first
    | (cases e; rw [rx.toInt, ry.toInt]; exact ⟨_, _, rfl, rfl, ok_same F (.bl _) h⟩)
    | cases e
theorem od_gt {K : PySem.W.Frag} : OpD K (rI0 fun i j => .bl (decide (j < i))) gtD .fz := od_icmp _
theorem ints_of {K : PySem.W.Frag} {H : Hp} {S : Addr → Prop} : ∀ {ds : List D} {vs : List V} {ns : List Int}, RepAll K H S vs ds → intsD ds = some ns → vs = ns.map V.int
  | [], _, _, .nil, e => by simp [intsD] at e; subst e; rfl
  | .int i :: ds, _, ns, .cons r t, e => by
    simp only [intsD, Option.map_eq_some_iff] at e
    obtain ⟨ms, e, rfl⟩ := e
    rw [r.toInt, ints_of t e]; rfl
  | .none :: _, _, _, .cons _ _, e => by simp [intsD] at e
  | .bool _ :: _, _, _, .cons _ _, e => by simp [intsD] at e
  | .str _ :: _, _, _, .cons _ _, e => by simp [intsD] at e
  | .list _ :: _, _, _, .cons _ _, e => by simp [intsD] at e
  | .tuple _ :: _, _, _, .cons _ _, e => by simp [intsD] at e
  | .dict _ :: _, _, _, .cons _ _, e => by simp [intsD] at e
def rLtF (K : PySem.W.Frag) : R2 := fun x y H Q => rI0 (fun i j => .bl (decide (i < j))) x y H Q ∨ rLtT K x y H Q
theorem op_ltF (hu : X.A.units < cLine) : OpR X (compareOp .Lt) (rLtF X.K) := op_lt.or (op_ltT hu)
theorem od_lt {K : PySem.W.Frag} : OpD K (rLtF K) ltD .fz := by
  intro κ g env σ H x y dx dy dz Q F rx ry e h
  cases dx <;> cases dy <;> simp only [ltD] at e <;> first
    | (cases e; rw [rx.toInt, ry.toInt]; exact .inl ⟨_, _, rfl, rfl, ok_same F (.bl _) h⟩)
    | (simp only [Option.bind_eq_some_iff, Option.map_eq_some_iff] at e
       obtain ⟨ns, e1, ms, e2, rfl⟩ := e
       obtain ⟨a, xs, rfl, ra, za, la⟩ := rx.toTup
       obtain ⟨b, ys, rfl, rb, zb, lb⟩ := ry.toTup
       have ea := ints_of la e1
       have eb := ints_of lb e2
       subst ea eb
       exact .inr ⟨a, b, ns, ms, rfl, rfl, sqT_of ra, sqT_of rb, ok_same F (.bl _) h⟩)
    | cases e
theorem od_eq {K : PySem.W.Frag} : OpD K (rEqD K) eqD .fz := by
  intro κ g env σ H x y dx dy dz Q F rx ry e h
  unfold eqD at e
  split at e
  · rename_i hh
    cases e
    exact ⟨dx, dy, rx.dp hh.1, ry.dp hh.2, hh.1, hh.2, ok_same F (.bl _) h⟩
  · cases e
theorem od_ne {K : PySem.W.Frag} : OpD K (rNeD K) neD .fz := by
  intro κ g env σ H x y dx dy dz Q F rx ry e h
  unfold neD at e
  split at e
  · rename_i hh
    cases e
    exact ⟨dx, dy, rx.dp hh.1, ry.dp hh.2, hh.1, hh.2, ok_same F (.bl _) h⟩
  · cases e
def rNotInF (K : PySem.W.Frag) : R2 := fun x y H Q => ∃ d c ds, Dp K H x d ∧ Dp K H y c ∧ seqD c = some ds ∧ SeqAt.shaped d = true ∧ SeqAt.shaped c = true ∧ Q (.bl (!(ds.any fun z => PyData.eqv z d))) H
theorem op_notInF (hu : X.A.units + 65 < cLine) : OpR X (compareOp .NotIn) (rNotInF X.K) := by
  intro pins s σ H x y v u Q I rx ry h
  obtain ⟨d, c, ds, hd, he, ec, sd, se, q⟩ := h
  obtain ⟨as, r1⟩ := Dp.reads I d x v hd rx
  obtain ⟨bs, r2⟩ := Dp.reads I c y u he ry
  cases c <;> simp only [seqD] at ec <;> first
    | (cases ec; exact SeqAt.notIn_list_reads r2 r1 (SeqAt.canLay_of_shaped se) (SeqAt.canLay_of_shaped sd) (room_in_shaped sd hu) ⟨.bl _, H, I, rfl, q⟩)
    | (cases ec; exact SeqAt.notIn_tuple_reads r2 r1 (SeqAt.canLay_of_shaped se) (SeqAt.canLay_of_shaped sd) (room_in_shaped sd hu) ⟨.bl _, H, I, rfl, q⟩)
    | (simp [SeqAt.shaped, PyData.canLay0] at se; done)
    | cases ec
theorem od_notIn {K : PySem.W.Frag} : OpD K (rNotInF K) notInD .fz := by
  intro κ g env σ H x y dx dy dz Q F rx ry e h
  unfold notInD at e
  split at e
  · rename_i ys ey
    split at e
    · rename_i hh
      cases e
      exact ⟨dx, dy, ys, rx.dp hh.1, ry.dp hh.2, ey, hh.1, hh.2, ok_same F (.bl _) h⟩
    · cases e
  · cases e
def isD : D → D → Option D
  | x, .none => isNoneD x
  | .bool a, .bool b => some (.bool (decide (a = b)))
  | _, _ => none
def isNotD : D → D → Option D
  | x, .none => notNoneD x
  | .bool a, .bool b => some (.bool (!decide (a = b)))
  | _, _ => none
theorem non_iff {K : PySem.W.Frag} {H : Hp} {S : Addr → Prop} {v : V} {d : D} (r : RdB K H S v d) : isNoneD d = some (.bool (decide (v = .non))) ∧ notNoneD d = some (.bool (!decide (v = .non))) := by
  rcases r with r | ⟨a, rfl, r⟩
  · cases r <;> simp [isNoneD, notNoneD]
  · cases r <;> simp [isNoneD, notNoneD]
def rIsNotF : R2 := fun x y H Q => (y = .non ∧ Q (.bl (!decide (x = .non))) H) ∨ rNotB x y H Q
theorem op_isNotF : OpR X (compareOp .IsNot) rIsNotF := op_notN.or op_notBl
theorem od_isNot {K : PySem.W.Frag} : OpD K rIsNotF isNotD .fz := by
  intro κ g env σ H x y dx dy dz Q F rx ry e h
  have hn := (non_iff rx).2
  cases dy <;> first
    | (simp only [isNotD] at e; rw [hn] at e; cases e; exact .inl ⟨ry.toNon, ok_same F (.bl _) h⟩)
    | (cases dx <;> simp only [isNotD] at e <;> first
        | (cases e; rw [rx.toBl, ry.toBl]; exact .inr ⟨_, _, rfl, rfl, ok_same F (.bl _) h⟩)
        | cases e)
theorem ixD_dict {kvs : List (D × D)} {y z : D} (h : ixD (.dict kvs) y = some z) : ∃ xs i, kvs = [(.none, .tuple xs)] ∧ y = .int i ∧ (ixN xs.length i).bind (fun j => xs[j]?) = some z := by
  unfold ixD at h
  split at h
  · rename_i i e; cases e
  · rename_i i e; cases e
  · rename_i i e; cases e; exact ⟨_, _, rfl, rfl, h⟩
  · cases h
theorem od_ix {K : PySem.W.Frag} : OpD K (rIx K) ixD .fz := by
  intro κ g env σ H x y dx dy dz Q F rx ry e h
  by_cases hd : ∃ kvs, dx = .dict kvs
  · obtain ⟨kvs, rfl⟩ := hd
    obtain ⟨ds, i, rfl, rfl, e⟩ := ixD_dict e
    obtain ⟨j, ej, e⟩ := Option.bind_eq_some_iff.mp e
    rw [ry.toInt]
    obtain ⟨a, xs, rfl, ra, za, la⟩ := rx.toTupO (d := xtD ds) rfl
    obtain ⟨v, ev, rv⟩ := la.get e
    exact .inr (.inl ⟨a, xs, _, v, rfl, rfl, sqT_of ra, by unfold atI; rw [la.length]; show (G7.ixN _ _).bind _ = _; rw [ej]; exact ev, ok_same F rv h⟩)
  cases dx <;> cases dy <;> simp only [ixD] at e <;> first
    | (simp only [Option.bind_eq_some_iff] at e
       obtain ⟨j, ej, e⟩ := e
       rw [ry.toInt]
       first
         | (obtain ⟨a, xs, rfl, ra, za, la⟩ := rx.toLst
            obtain ⟨v, ev, rv⟩ := la.get e
            exact .inl ⟨a, xs, _, v, rfl, rfl, .inl ra, by unfold atI; rw [la.length]; show (G7.ixN _ _).bind _ = _; rw [ej]; exact ev, ok_same F rv h⟩)
         | (obtain ⟨a, xs, rfl, ra, za, la⟩ := rx.toTup
            obtain ⟨v, ev, rv⟩ := la.get e
            exact .inr (.inl ⟨a, xs, _, v, rfl, rfl, sqT_of ra, by unfold atI; rw [la.length]; show (G7.ixN _ _).bind _ = _; rw [ej]; exact ev, ok_same F rv h⟩)))
    | (exact absurd ⟨_, rfl⟩ hd)
    | cases e
theorem cut_rep {K : PySem.W.Frag} {H : Hp} {S : Addr → Prop} {xs : List V} {ds : List D} (la : RepAll K H S xs ds) (lo hi : Option Int) : RepAll K H S (cutV xs lo hi) (cut ds lo hi) := by
  unfold cutV cut
  rw [la.length]
  exact (la.drop _).take _
theorem cut_whole {n : Nat} {ds : List D} {lo hi : Option Int} (e : n = ds.length) (h1 : HT.sIx n 0 lo = 0) (h2 : HT.sIx n n hi = n) : cut ds lo hi = ds := by
  unfold cut
  rw [← e, h1, h2, e]
  simp
/-- t[lo:hi], as it is laid -/
def rSlM (K : PySem.W.Frag) : V → Option Int → Option Int → Hp → VK → Prop := fun x lo hi H Q => ∃ a xs, x = .ref a ∧ SqT K H a xs ∧
  (HT.sIx xs.length 0 lo = 0 ∧ HT.sIx xs.length xs.length hi = xs.length → Q (.ref a) H) ∧ (¬ (HT.sIx xs.length 0 lo = 0 ∧ HT.sIx xs.length xs.length hi = xs.length) → ∀ p o, H p = none → MkT o (cutV xs lo hi) → Q (.ref p) (upd H p o))
theorem sl_tupM : SlR X (rSlM X.K) := by
  intro pins s σ H x v vl vu lo hi sl Q I rx hs pl pu h
  obtain ⟨a, xs, rfl, hx, q1, q2⟩ := h
  by_cases hw : HT.sIx xs.length 0 lo = 0 ∧ HT.sIx xs.length xs.length hi = xs.length
  · exact sl_tupA pins s σ H _ v vl vu lo hi sl Q I rx hs pl pu ⟨a, xs, rfl, hx, q1, fun c => absurd hw c⟩
  · cases rx
    obtain ⟨its, r, ht, hz⟩ := I.tuple hx
    have en : its.toArray.size = xs.length := by rw [List.size_toArray]; exact r.length.symm
    refine ⟨"tuple", _, PyProof.Rows.slot_tuple_getitem.lookup, ht.typeIs, ?_⟩
    refine HT.getItem_tuple_cut ht hs pl pu (by rw [en]; exact hw) ?_ (by rw [en]; exact hz)
    rw [en]
    obtain ⟨o, m, J⟩ := mk_laid I ((r.drop (HT.sIx xs.length 0 lo)).take (HT.sIx xs.length xs.length hi - HT.sIx xs.length 0 lo)) (Nat.le_trans (cutV_length xs lo hi) hz) rfl
    exact ⟨.ref s.heap.objs.size, _, J, rfl, q2 hw _ o (I.hok.fresh (Nat.le_refl _)) m⟩
def rSlF (K : PySem.W.Frag) : V → Option Int → Option Int → Hp → VK → Prop := fun x lo hi H Q => rSlL K x lo hi H Q ∨ rSlM K x lo hi H Q
theorem sl_F : SlR X (rSlF X.K) := sl_list.or sl_tupM
def SlD (K : PySem.W.Frag) (r : V → Option Int → Option Int → Hp → VK → Prop) (f : D → Option Int → Option Int → Option D) (k : RK) : Prop := ∀ (κ : List SK) (g : Rg) (env : En) (σ : St) (H : Hp) (x : V) (lo hi : Option Int) (dx dz : D) (Q : VK), Frm K κ g env σ H → RdB K H g.own x dx → f dx lo hi = some dz →
  (∀ v H' g', Frm K κ g' env σ H' → EStep [] g g' H H' → Res K g' k H H' v dz → Q v H') → r x lo hi H Q
theorem slD_dict {kvs : List (D × D)} {lo hi : Option Int} {z : D} (h : slD (.dict kvs) lo hi = some z) : ∃ xs, kvs = [(.none, .tuple xs)] ∧ z = if HT.sIx xs.length 0 lo = 0 ∧ HT.sIx xs.length xs.length hi = xs.length then xtD xs else .tuple (cut xs lo hi) := by
  unfold slD at h
  split at h
  · rename_i e; cases e
  · rename_i e; cases e
  · rename_i e; cases e; cases h; exact ⟨_, rfl, rfl⟩
  · cases h
theorem sd_F {K : PySem.W.Frag} : SlD K (rSlF K) slD .fz := by
  intro κ g env σ H x lo hi dx dz Q F rx e h
  by_cases hd : ∃ kvs, dx = .dict kvs
  · obtain ⟨kvs, rfl⟩ := hd
    obtain ⟨ds, rfl, rfl⟩ := slD_dict e
    have tr := RdB.xtRep (ds := ds) rx
    obtain ⟨a, xs, rfl, ra, za, la⟩ := rx.toTupO (d := xtD ds) rfl
    refine .inr ⟨a, xs, rfl, sqT_of ra, fun w => ?_, fun w p o np m => ?_⟩
    · rw [la.length] at w
      rw [if_pos w] at h
      exact ok_same F tr h
    · rw [la.length] at w
      rw [if_neg w] at h
      exact ok_tup F (cut_rep la lo hi) (Nat.le_trans (cutV_length _ _ _) za) np m h
  cases dx <;> simp only [slD] at e <;> first
    | (cases e
       first
         | (obtain ⟨a, xs, rfl, ra, za, la⟩ := rx.toLst
            exact .inl ⟨a, xs, rfl, .inl ra, fun p np => ok_lst F (cut_rep la lo hi) (Nat.le_trans (cutV_length _ _ _) za) np h⟩)
         | (have tr := rx.tupRep
            obtain ⟨a, xs, rfl, ra, za, la⟩ := rx.toTup
            refine .inr ⟨a, xs, rfl, sqT_of ra, fun w => ?_, fun _ p o np m => ok_tup F (cut_rep la lo hi) (Nat.le_trans (cutV_length _ _ _) za) np m h⟩
            rw [cut_whole la.length w.1 w.2] at h
            exact ok_same F tr h))
    | (exact absurd ⟨_, rfl⟩ hd)
    | cases e
end
end G7

set_option maxRecDepth 100000
namespace G7
open PySem PySem.Spec PyProof.Rows L2

def insI (x : Int) : List Int → List Int
  | [] => [x]
  | y :: r => if x ≤ y then x :: y :: r else y :: insI x r
def isort : List Int → List Int
  | [] => []
  | x :: r => insI x (isort r)
theorem insI_perm (x : Int) : ∀ l : List Int, (insI x l).Perm (x :: l)
  | [] => .refl _
  | y :: r => by
    unfold insI
    split
    · exact .refl _
    · exact ((insI_perm x r).cons y).trans (.swap x y r)
theorem isort_perm : ∀ l : List Int, (isort l).Perm l
  | [] => .refl _
  | x :: r => (insI_perm x _).trans ((isort_perm r).cons x)
theorem insI_sorted (x : Int) : ∀ l : List Int, l.Pairwise (· ≤ ·) → (insI x l).Pairwise (· ≤ ·)
  | [], _ => by simp [insI]
  | y :: r, h => by
    unfold insI
    have h' := List.pairwise_cons.mp h
    split
    · rename_i c
      refine List.pairwise_cons.mpr ⟨fun z hz => ?_, h⟩
      rcases List.mem_cons.mp hz with rfl | hz
      · exact c
      · exact Int.le_trans c (h'.1 z hz)
    · rename_i c
      refine List.pairwise_cons.mpr ⟨fun z hz => ?_, insI_sorted x r h'.2⟩
      rcases List.mem_cons.mp ((insI_perm x r).mem_iff.mp hz) with rfl | hz
      · omega
      · exact h'.1 z hz
theorem isort_sorted : ∀ l : List Int, (isort l).Pairwise (· ≤ ·)
  | [] => .nil
  | x :: r => insI_sorted x _ (isort_sorted r)
theorem sorted_one : ∀ {l m : List Int}, l.Perm m → l.Pairwise (· ≤ ·) → m.Pairwise (· ≤ ·) → l = m
  | [], m, p, _, _ => (p.symm.eq_nil).symm
  | x :: l, [], p, _, _ => absurd p.eq_nil (by simp)
  | x :: l, y :: m, p, hl, hm => by
    have hl' := List.pairwise_cons.mp hl
    have hm' := List.pairwise_cons.mp hm
    have e : x = y := by
      have h1 : x ∈ y :: m := p.mem_iff.mp (by simp)
      have h2 : y ∈ x :: l := p.mem_iff.mpr (by simp)
      rcases List.mem_cons.mp h1 with e | h1
      · exact e
      · rcases List.mem_cons.mp h2 with e | h2
        · exact e.symm
        · have a := hm'.1 x h1
          have b := hl'.1 y h2
          omega
    subst e
    rw [sorted_one (p.cons_inv) hl'.2 hm'.2]
def sortedD : List D → Option D
  | [.list xs] => (intsD xs).map fun ns => .list ((isort ns).map .int)
  | _ => none
def maxI : List Int → Option Int
  | [] => none
  | x :: r => some (r.foldl max x)
section
variable {K : PySem.W.Frag} {H : Hp} {S : Addr → Prop}
theorem rda1 {vs : List V} {d : D} (h : RdA K H S vs [d]) : ∃ v, vs = [v] ∧ RdB K H S v d := by
  cases vs with
  | nil => exact h.elim
  | cons v r => cases r with
    | nil => exact ⟨v, rfl, h.1⟩
    | cons _ _ => exact h.2.elim
theorem rda2 {vs : List V} {d e : D} (h : RdA K H S vs [d, e]) : ∃ v w, vs = [v, w] ∧ RdB K H S v d ∧ RdB K H S w e := by
  cases vs with
  | nil => exact h.elim
  | cons v r =>
    obtain ⟨w, rfl, q⟩ := rda1 h.2
    exact ⟨v, w, rfl, h.1, q⟩
theorem repInts : ∀ ns : List Int, RepAll K H S (ns.map V.int) (ns.map .int)
  | [] => .nil
  | n :: ns => .cons (.int n) (repInts ns)
theorem bools_of : ∀ {ds : List D} {vs : List V} {ns : List Bool}, RepAll K H S vs ds → boolsD ds = some ns → vs = ns.map V.bl
  | [], _, _, .nil, e => by simp [boolsD] at e; subst e; rfl
  | .bool i :: ds, _, ns, .cons r t, e => by
    simp only [boolsD, Option.map_eq_some_iff] at e
    obtain ⟨ms, e, rfl⟩ := e
    rw [r.toBl, bools_of t e]; rfl
  | .none :: _, _, _, .cons _ _, e => by simp [boolsD] at e
  | .int _ :: _, _, _, .cons _ _, e => by simp [boolsD] at e
  | .str _ :: _, _, _, .cons _ _, e => by simp [boolsD] at e
  | .list _ :: _, _, _, .cons _ _, e => by simp [boolsD] at e
  | .tuple _ :: _, _, _, .cons _ _, e => by simp [boolsD] at e
  | .dict _ :: _, _, _, .cons _ _, e => by simp [boolsD] at e
end
section
variable {X : Cx} {K : PySem.W.Frag}
def rLen (K : PySem.W.Frag) : List V → Hp → VK → Prop := fun xs H Q => ∃ p ys, xs = [.ref p] ∧ (SqL K H p ys ∨ SqT K H p ys) ∧ Q (.int ys.length) H
theorem bd_len : BlD K (rLen K) lenD .fz := by
  intro κ g env σ H vs ds dz Q F r e h
  match ds, e with
  | [.list xs], e =>
    cases e
    obtain ⟨v, rfl, rx⟩ := rda1 r
    obtain ⟨a, ys, rfl, ra, za, la⟩ := rx.toLst
    exact ⟨a, ys, rfl, .inl (.inl ra), by rw [la.length]; exact ok_same F (.int _) h⟩
  | [.tuple xs], e =>
    cases e
    obtain ⟨v, rfl, rx⟩ := rda1 r
    obtain ⟨a, ys, rfl, ra, za, la⟩ := rx.toTup
    exact ⟨a, ys, rfl, .inr (sqT_of ra), by rw [la.length]; exact ok_same F (.int _) h⟩
  | [.dict [(.none, .tuple xs)]], e =>
    cases e
    obtain ⟨v, rfl, rx⟩ := rda1 r
    obtain ⟨a, ys, rfl, ra, za, la⟩ := rx.toTupO (d := xtD xs) rfl
    exact ⟨a, ys, rfl, .inr (sqT_of ra), by rw [la.length]; exact ok_same F (.int _) h⟩
def rTupOf (K : PySem.W.Frag) : List V → Hp → VK → Prop := fun xs H Q => ∃ p ys, xs = [.ref p] ∧ ((SqL K H p ys ∧ ∀ l o, H l = none → MkT o ys → Q (.ref l) (upd H l o)) ∨ (SqT K H p ys ∧ Q (.ref p) H))
theorem call_tupleM : CallR X (.type "tuple") (rTupOf X.K) := by
  intro pins s σ H xs us Q I r h
  obtain ⟨p, ys, rfl, ⟨hq, q⟩ | ⟨hq, q⟩⟩ := h
  · obtain ⟨u, rfl, rx⟩ := vals1 r
    cases rx
    obtain ⟨its, rv, pl, hz⟩ := I.list hq
    have en := rv.length
    refine call_tuple_list pl.isList (fun h' kp => ?_) (by simp only [List.size_toArray] <;> omega)
    have J : Inv X pins σ H { s with heap := h' } := I.kept (t' := s.toks) kp
    obtain ⟨o, m, J2⟩ := mk_laid J rv hz rfl
    exact ⟨.ref h'.objs.size, _, J2, rfl, q _ o (J.hok.fresh (Nat.le_refl _)) m⟩
  · exact call_tuple_of pins s σ H _ us Q I r ⟨p, ys, rfl, .inr ⟨hq, q⟩⟩
theorem bd_tup : BlD K (rTupOf K) tupD .fz := by
  intro κ g env σ H vs ds dz Q F r e h
  match ds, e with
  | [.list xs], e =>
    cases e
    obtain ⟨v, rfl, rx⟩ := rda1 r
    obtain ⟨a, ys, rfl, ra, za, la⟩ := rx.toLst
    exact ⟨a, ys, rfl, .inl ⟨.inl ra, fun l o nl m => ok_tup F la za nl m h⟩⟩
  | [.tuple xs], e =>
    cases e
    obtain ⟨v, rfl, rx⟩ := rda1 r
    have t := rx.tupRep
    obtain ⟨a, ys, rfl, ra, za, la⟩ := rx.toTup
    exact ⟨a, ys, rfl, .inr ⟨sqT_of ra, ok_same F t h⟩⟩
  | [.dict [(.none, .tuple xs)]], e =>
    cases e
    obtain ⟨v, rfl, rx⟩ := rda1 r
    have t := RdB.xtRep (ds := xs) rx
    obtain ⟨a, ys, rfl, ra, za, la⟩ := rx.toTupO (d := xtD xs) rfl
    exact ⟨a, ys, rfl, .inr ⟨sqT_of ra, ok_same F t h⟩⟩
def rLstOf (K : PySem.W.Frag) : List V → Hp → VK → Prop := fun xs H Q => ∃ p ys, xs = [.ref p] ∧ (SqL K H p ys ∨ SqT K H p ys) ∧ ∀ l, H l = none → Q (.ref l) (upd H l (.lst ys))
theorem bd_lst : BlD K (rLstOf K) lstD .nw := by
  intro κ g env σ H vs ds dz Q F r e h
  match ds, e with
  | [.list xs], e =>
    cases e
    obtain ⟨v, rfl, rx⟩ := rda1 r
    obtain ⟨a, ys, rfl, ra, za, la⟩ := rx.toLst
    exact ⟨a, ys, rfl, .inl (.inl ra), fun l nl => ok_lstN F la za nl h⟩
  | [.tuple xs], e =>
    cases e
    obtain ⟨v, rfl, rx⟩ := rda1 r
    obtain ⟨a, ys, rfl, ra, za, la⟩ := rx.toTup
    exact ⟨a, ys, rfl, .inr (sqT_of ra), fun l nl => ok_lstN F la za nl h⟩
  | [.dict [(.none, .tuple xs)]], e =>
    cases e
    obtain ⟨v, rfl, rx⟩ := rda1 r
    obtain ⟨a, ys, rfl, ra, za, la⟩ := rx.toTupO (d := xtD xs) rfl
    exact ⟨a, ys, rfl, .inr (sqT_of ra), fun l nl => ok_lstN F la za nl h⟩
theorem bd_max2 : BlD K (fun xs H Q => ∃ i j, xs = [.int i, .int j] ∧ Q (.int (if j > i then j else i)) H) max2D .fz := by
  intro κ g env σ H vs ds dz Q F r e h
  match ds, e with
  | [.int i, .int j], e =>
    cases e
    obtain ⟨v, w, rfl, rx, ry⟩ := rda2 r
    rw [rx.toInt, ry.toInt]
    exact ⟨i, j, rfl, ok_same F (.int _) h⟩
theorem bd_min2 : BlD K (fun xs H Q => ∃ i j, xs = [.int i, .int j] ∧ Q (.int (if j < i then j else i)) H) min2D .fz := by
  intro κ g env σ H vs ds dz Q F r e h
  match ds, e with
  | [.int i, .int j], e =>
    cases e
    obtain ⟨v, w, rfl, rx, ry⟩ := rda2 r
    rw [rx.toInt, ry.toInt]
    exact ⟨i, j, rfl, ok_same F (.int _) h⟩
theorem bd_all : BlD K (rAll K) allD .fz := by
  intro κ g env σ H vs ds dz Q F r e h
  match ds, e with
  | [.list xs], e =>
    simp only [allD, Option.map_eq_some_iff] at e
    obtain ⟨bs, e2, rfl⟩ := e
    obtain ⟨v, rfl, rx⟩ := rda1 r
    obtain ⟨a, ys, rfl, ra, za, la⟩ := rx.toLst
    have eb := bools_of la e2
    subst eb
    exact ⟨a, bs, rfl, .inl ra, ok_same F (.bl _) h⟩
theorem bd_sorted : BlD K (rSortedI K) sortedD .nw := by
  intro κ g env σ H vs ds dz Q F r e h
  match ds, e with
  | [.list xs], e =>
    simp only [sortedD, Option.map_eq_some_iff] at e
    obtain ⟨ns, e2, rfl⟩ := e
    obtain ⟨v, rfl, rx⟩ := rda1 r
    obtain ⟨a, ys, rfl, ra, za, la⟩ := rx.toLst
    have eb := ints_of la e2
    subst eb
    refine ⟨a, ns, rfl, .inl ra, fun ns' p pm srt np => ?_⟩
    have : ns' = isort ns := sorted_one (pm.trans (isort_perm ns).symm) srt (isort_sorted ns)
    subst this
    exact ok_lstN F (repInts _) (by simpa [(isort_perm ns).length_eq] using za) np h
def tyD : D → String
  | .none => "NoneType"
  | .bool _ => "bool"
  | .int _ => "int"
  | .str _ => "str"
  | .list _ => "list"
  | .tuple _ => "tuple"
  | .dict [(.none, .tuple _)] => "tuple"
  | .dict [(.bool true, .tuple _)] => "tuple"
  | .dict _ => "dict"
def isT (T t : String) : Bool := t == T || (t == "bool" && T == "int")
def isTD (T : String) (d : D) : Option D := some (.bool (isT T (tyD d)))
theorem tyD_dK (kvs : List (Key × V)) (ds : List D) : tyD (.dict ((kvs.map fun p => kD p.1).zip ds)) = "dict" := by
  cases kvs with
  | nil => rfl
  | cons p kvs =>
    obtain ⟨k, v⟩ := p
    cases ds with
    | nil => rfl
    | cons d ds => cases k <;> rfl
theorem tyD_dT (kvs : List (List Key × V)) (ds : List D) : tyD (.dict ((.none, .none) :: (kvs.map fun p => tD p.1).zip ds)) = "dict" := rfl
theorem RdB.tyX {H : Hp} {S : Addr → Prop} {v : V} {d : D} (r : RdB K H S v d) : TyX K H v (.type (tyD d)) := by
  rcases r with r | ⟨a, rfl, r⟩
  · cases r with
    | non => exact .base .non
    | bl b => exact .base (.bl b)
    | int i => exact .base (.int i)
    | str x => exact .base (.str x)
    | lst n r z al => exact .base (.lst r)
    | tup n r z al => rcases r with ⟨_, r⟩ | ⟨_, o, r, _⟩; exact .base (.tup r); exact .fTuple r
    | dK n r al => rw [tyD_dK]; exact .base (.dK r)
    | dT n r al => rw [tyD_dT]; exact .base (.dT r)
    | xt n r e z al => exact .fTuple r
    | kt n r z al => exact .base (.tup r)
  · cases r with
    | lst r z al => rcases r with r | ⟨o, r⟩; exact .base (.lst r); exact .base (.frz r)
    | dK r al => rw [tyD_dK]; exact .base (.dK r)
    | dT r al => rw [tyD_dT]; exact .base (.dT r)
theorem se_isi {κ : List SK} {M : List Nat} {k : RK} {w : WE} {T : String} {a : Expr} {x : Str} {p p2 pos : Pos} (hT : (["NoneType", "bool", "int", "str", "list", "tuple", "dict"].all fun t => kitB t T == some (isT T t)) = true) (ha : SE X κ M k a w) (hg : Gl X "isinstance") (hm : X.mg "isinstance" = none)
    (hgT : Gl X x) (hmT : X.mg x = none) (hvT : bootBuiltins x = some (.type T)) (pa : k.rdable = true := by rfl) (hn : x ≠ "__name__" := by decide) (hdb : (x == ("__debug__" : Str)) = false := by decide)
    (he : starEach [a, .Name x p2] X.env = (false, eval a X.env) :: starEach [.Name x p2] X.env := by rfl) (he2 : starEach [.Name x p2] X.env = (false, eval (.Name x p2) X.env) :: starEach [] X.env := by rfl) (hpl : (backTo pos (starEach [.Name x p2] X.env)).any (·.1) = false := by rfl) :
    SE X κ M .fz (.Call (.Name "isinstance" p) [a, .Name x p2] [] pos) (wOp1 (isTD T) w) :=
  SE.of (pe_callB (id := "isinstance") call_isi hg hm (by decide +kernel) (pa_cons ha (pa_cons (pe_bltn (v := .ty T) hgT hmT hvT rfl hn hdb) pa_nil he2) he) (by decide) (by decide) he hpl) fun σ H Q ⟨g, env, W, F, hw, post⟩ =>
    ⟨g, env, _, F, hw, fun v H1 g1 e1 d F1 s1 r1 ⟨z, ez, w1⟩ => by
      cases ez
      refine ⟨v, .ty T, _, .type T, isT T (tyD d), rfl, .ty T, (r1.rdb pa).tyX, kit_ty ?_, post _ H1 g1 e1 _ F1 s1 (.bl _) w1⟩
      have := List.all_eq_true.mp hT (tyD d) (by unfold tyD; split <;> simp)
      exact beq_iff_eq.mp this⟩
def cO (K : PySem.W.Frag) (κ : List SK) (M : List Nat) (w : WO) : TO := fun σ H Q => ∃ g env W, Frm K κ g env σ H ∧ w env W ∧ ∀ o H' g' env', Frm K κ g' env' σ H' → EStep M g g' H H' → W o env' → Q o H'
def SO (X : Cx) (κ : List SK) (M : List Nat) (e : Option Expr) (w : WO) : Prop := PO X e (cO X.K κ M w)
theorem SO.of {κ : List SK} {M : List Nat} {e : Option Expr} {w : WO} {t : TO} (h : PO X e t) (i : ∀ σ H Q, cO X.K κ M w σ H Q → t σ H Q) : SO X κ M e w := ⟨fun pins s σ H Q I q => h.run pins s σ H Q I (i σ H Q q)⟩
theorem so_n {κ : List SK} {M : List Nat} : SO X κ M none woN := SO.of po_none fun σ H Q ⟨g, env, W, F, hw, post⟩ => post none H g env F .refl hw
theorem so_s {κ : List SK} {M : List Nat} {k : RK} {e : Expr} {w : WE} (h : SE X κ M k e w) (pa : k.rdable = true := by rfl) : SO X κ M (some e) (woS w) :=
  SO.of (po_some h) fun σ H Q ⟨g, env, W, F, hw, post⟩ => ⟨g, env, _, F, hw, fun v H1 g1 e1 d F1 s1 r1 ⟨i, e, w1⟩ => by
    subst e
    exact ⟨i, (r1.rdb pa).toInt, post (some i) H1 g1 e1 F1 s1 w1⟩⟩
theorem se_sl {κ : List SK} {M : List Nat} {k ka : RK} {a : Expr} {lo hi : Option Expr} {wa : WE} {wl wh : WO} {r : V → Option Int → Option Int → Hp → VK → Prop} {f : D → Option Int → Option Int → Option D} {p2 pos : Pos} (hr : SlR X r) (hf : SlD X.K r f k) (ha : SE X κ M ka a wa) (hl : SO X κ M lo wl) (hh : SO X κ M hi wh)
    (hs : stable ka M = true := by rfl) (pa : ka.rdable = true := by rfl) : SE X κ M k (.Subscript a (.Slice lo hi none p2) pos) (wSl f wa wl wh) :=
  SE.of (pe_slice hr ha hl hh) fun σ H Q ⟨g, env, W, F, hw, post⟩ => ⟨g, env, _, F, hw, fun x H1 g1 e1 d1 F1 s1 r1 w1 => ⟨g1, e1, _, F1, w1, fun l H2 g2 e2 F2 s2 w2 => ⟨g2, e2, _, F2, w2, fun u H3 g3 e3 F3 s3 ⟨z, ez, w3⟩ => by
    have s12 := s1.tr s2 F F1
    have s123 := s12.tr s3 F F2
    refine hf κ g3 e3 σ H3 x l u d1 z Q F3 (((r1.step s2 F1 hs).step s3 F2 hs).rdb pa) ez fun v H4 g4 F4 s4 r4 => ?_
    exact post v H4 g4 e3 z F4 (s123.tr (s4.mono fun _ q => nomatch q) F F3) (r4.back fun p q => s123.there F F3 q) w3⟩⟩⟩
end
end G7

set_option maxRecDepth 100000
namespace G7
open PySem PySem.Spec PyProof.Rows L2

section
variable {K : PySem.W.Frag} {κ : List SK} {N : List Nat}
/-- a list or a tuple at a -/
def Src (K : PySem.W.Frag) (N : List Nat) (a : Addr) (xs : List D) (l : Bool) (g : Rg) (H : Hp) : Prop :=
  ∃ vs, vs.length ≤ sizeLine ∧ RepAll K H g.own vs xs ∧ (if l = true then Rd H a (.lst vs) ∧ ¬ g.P a ∧ ∀ j, g.al j = some a → j ∈ N else (¬ g.own a ∧ Rd H a (.tup vs)) ∨ KTup K a vs)
theorem SStep.off {M : List Nat} {g g' : Rg} {H H' : Hp} {env : En} {σ : St} (s : SStep κ M g g' H H') (F : Frm K κ g env σ H) (hv : 999 ∉ M) : ∀ b o, ¬ g.own b → H b = some o → H' b = some o := fun b o n e =>
  s.keep b o e (fun p => n (F.p_own p)) (fun i _ z => n (.inr ⟨i, z⟩)) fun h => absurd h hv
theorem SStep.own {M : List Nat} {g g' : Rg} {H H' : Hp} (s : SStep κ M g g' H H') : ∀ a, g'.own a → g.own a ∨ H a = none := fun a q => by
  rcases q with q | ⟨i, q⟩
  · exact (s.dn a q).imp .inl id
  · rcases s.al i a q with z | z
    · exact .inl (.inr ⟨i, z⟩)
    · exact .inr z
theorem Src.holds (h9 : 999 ∈ N) {a : Addr} {xs : List D} {l : Bool} : ∀ (K' : PySem.W.Frag) M g g' env env' σ σ' H H', (∀ i ∈ M, i ∉ N) → Frm K' κ g env σ H → Frm K' κ g' env' σ' H' → SStep κ M g g' H H' → Src K N a xs l g H → Src K N a xs l g' H' := by
  intro K' M g g' env env' σ σ' H H' dis F F' s ⟨vs, z, al, h⟩
  have hv : 999 ∉ M := fun q => dis _ q h9
  have off := s.off F hv
  refine ⟨vs, z, al.keep off s.own, ?_⟩
  cases l with
  | true =>
    obtain ⟨r, np, na⟩ := h
    refine ⟨rd_keep (fun o e => s.keep a o e np (fun i hi z => dis i hi (na i z)) fun h => absurd h hv) r, fun q => (s.pd a q).elim np fun e => rd_tracked r e, fun j q => (s.al j a q).elim (na j) fun e => absurd e (rd_tracked r)⟩
  | false =>
    have h' : (¬ g.own a ∧ Rd H a (.tup vs)) ∨ KTup K a vs := h
    show (¬ g'.own a ∧ Rd H' a (.tup vs)) ∨ KTup K a vs
    refine h'.imp (fun ⟨n, r⟩ => ⟨fun q => (s.own a q).elim n fun e => rd_tracked r e, rd_keep (fun o e => off a o n e) r⟩) id
theorem src_holds (h9 : 999 ∈ N := by first | assumption | decide) {a : Addr} {xs : List D} {l : Bool} : Holds κ N (Src K N a xs l) := fun K' M g g' env env' σ σ' H H' => Src.holds h9 K' M g g' env env' σ σ' H H'
def nOf : RK → List Nat
  | .ow i => [i, 999]
  | _ => [999]
theorem n9 (k : RK) : 999 ∈ nOf k := by cases k <;> simp [nOf]
/-- from an answer -/
theorem src_lst {g : Rg} {env : En} {σ : St} {H0 H : Hp} {k : RK} {v : V} {ys0 : List D} (F : Frm K κ g env σ H) (pa : k.rdable = true) (r : Res K g k H0 H v (.list ys0)) : ∃ a, v = .ref a ∧ Src K (nOf k) a ys0 true g H := by
  have lst : ∃ a ys, v = .ref a ∧ Rd H a (.lst ys) ∧ ys.length ≤ sizeLine ∧ RepAll K H g.own ys ys0 ∧ ¬ g.P a ∧ ∀ j, g.al j = some a → j ∈ nOf k := by
    cases k with
    | fz =>
      cases r with
      | lst n q z al => exact ⟨_, _, rfl, .inl q, z, al, fun p => n (F.p_own p), fun j e => absurd (.inr ⟨j, e⟩) n⟩
    | rd =>
      rcases r with r | ⟨a, rfl, np, na, r⟩
      · cases r with
        | lst n q z al => exact ⟨_, _, rfl, .inl q, z, al, fun p => n (F.p_own p), fun j e => absurd (.inr ⟨j, e⟩) n⟩
      · cases r with
        | lst q z al => exact ⟨_, _, rfl, q, z, al, np, fun j e => absurd (F.il a na) (F.alo j a e).1⟩
    | nw =>
      obtain ⟨p, rfl, _, hO, hP, r⟩ := r
      cases r with
      | lst q z al => exact ⟨_, _, rfl, .inl q, z, al, hP, fun j e => absurd hO (F.alo j p e).1⟩
    | ow i =>
      obtain ⟨p, rfl, ea, r⟩ := r
      cases r with
      | lst q z al => exact ⟨_, _, rfl, .inl q, z, al, fun z => (F.alo i p ea).1 (F.pl p z).1, fun j e => by rw [F.inj j i p e ea]; simp [nOf]⟩
    | pl => simp [RK.rdable] at pa
    | np => simp [RK.rdable] at pa
  obtain ⟨a, ys, e1, q, z, al, np, na⟩ := lst
  exact ⟨a, e1, ys, z, al, q, np, na⟩
theorem src_tup {g : Rg} {H0 H : Hp} {k : RK} {v : V} {ys0 : List D} {N : List Nat} (pa : k.rdable = true) (r : Res K g k H0 H v (.tuple ys0)) : ∃ a, v = .ref a ∧ Src K N a ys0 false g H := by
  obtain ⟨a, ys, e1, q, z, al⟩ := (r.rdb pa).toTup
  exact ⟨a, e1, ys, z, al, q⟩
theorem src_of {g : Rg} {env : En} {σ : St} {H0 H : Hp} {k : RK} {v : V} {d : D} {xs : List D} (F : Frm K κ g env σ H) (pa : k.rdable = true) (r : Res K g k H0 H v d) (e : seqD d = some xs) : ∃ a l, v = .ref a ∧ Src K (nOf k) a xs l g H := by
  cases d with
  | list ys0 =>
    simp only [seqD, Option.some.injEq] at e
    subst e
    obtain ⟨a, e, s⟩ := src_lst F pa r
    exact ⟨a, true, e, s⟩
  | tuple ys0 =>
    simp only [seqD, Option.some.injEq] at e
    subst e
    obtain ⟨a, e, s⟩ := src_tup pa r
    exact ⟨a, false, e, s⟩
  | none => simp [seqD] at e
  | bool _ => simp [seqD] at e
  | int _ => simp [seqD] at e
  | str _ => simp [seqD] at e
  | dict kvs =>
    rcases dict_xt kvs with ⟨ys, rfl⟩ | hn
    · simp only [seqD, Option.some.injEq] at e
      subst e
      obtain ⟨a, ys, e1, q, z, al⟩ := (r.rdb pa).toTupO (d := xtD ys) rfl
      exact ⟨a, false, e1, ys, z, al, q⟩
    · exfalso
      unfold seqD at e
      split at e
      · rename_i e1; cases e1
      · rename_i e1; cases e1
      · rename_i e1; cases e1; exact hn _ rfl
      · cases e
end
section
variable {X : Cx} {tg : Expr}
/-- a list or a tuple is walked -/
def iSeq (K : PySem.W.Frag) (tl : TE) : TI := fun σ H R => tl σ H fun x H1 => ∃ a, x = .ref a ∧ ((∃ xs, SqL K H1 a xs ∧ R (Itl K a) H1) ∨ (∃ xs, SqT K H1 a xs ∧ R (Itt K a) H1))
theorem pi_seq {l : Expr} {tl : TE} (hl : PE X l tl) : PI X tg l (iSeq X.K tl) := by
  refine ⟨fun pins s σ H R I h => ?_⟩
  refine thn (hl.run pins s σ H _ I h) fun v s1 ⟨x, H1, I1, r1, q1⟩ => ?_
  obtain ⟨a, e, q⟩ := q1
  subst e
  cases r1
  rcases q with ⟨xs, hq, q⟩ | ⟨xs, hq, q⟩
  · obtain ⟨its, rv, p, hz⟩ := I1.list hq
    refine wpAny_pyIter_list p.isList ?_
    refine ⟨s1.heap.objs.size, [s1.heap.objs.size], _, _, H1, rfl, I1.kept (t' := s1.toks) fun b o e => Heap.get?_push_of_some _ e, turn_list a _, ⟨_, Heap.get?_push_size _ rfl, rfl, rfl⟩, fun b hb => ?_, q⟩
    have e : b = s1.heap.objs.size := by simpa using hb
    subst e
    exact I1.fpOk (Nat.le_refl _) (I1.hok.fresh (Nat.le_refl _))
  · obtain ⟨its, rv, p, hz⟩ := I1.tuple hq
    refine wpAny_pyIter_tuple (show s1.heap.IsTuple a its.toArray from p) ?_
    refine ⟨s1.heap.objs.size, [s1.heap.objs.size], _, _, H1, rfl, I1.kept (t' := s1.toks) fun b o e => Heap.get?_push_of_some _ e, turn_tuple a _, ⟨_, Heap.get?_push_size _ rfl, rfl, rfl⟩, fun b hb => ?_, q⟩
    have e : b = s1.heap.objs.size := by simpa using hb
    subst e
    exact I1.fpOk (Nat.le_refl _) (I1.hok.fresh (Nat.le_refl _))
theorem sq_l {K : PySem.W.Frag} {N : List Nat} {a : Addr} {xs : List D} {g : Rg} {H : Hp} (h : Src K N a xs true g H) : ∃ vs, SqL K H a vs ∧ RepAll K H g.own vs xs := by
  obtain ⟨vs, z, al, r, _⟩ := h; exact ⟨vs, .inl r, al⟩
theorem sq_t {K : PySem.W.Frag} {N : List Nat} {a : Addr} {xs : List D} {g : Rg} {H : Hp} (h : Src K N a xs false g H) : ∃ vs, SqT K H a vs ∧ RepAll K H g.own vs xs := by
  obtain ⟨vs, z, al, r⟩ := h; exact ⟨vs, sqT_of r, al⟩
theorem src_len {K : PySem.W.Frag} {N : List Nat} {a : Addr} {xs : List D} {l : Bool} {g : Rg} {H : Hp} (h : Src K N a xs l g H) : xs.length ≤ sizeLine := by
  obtain ⟨vs, z, al, _⟩ := h; rw [← al.length]; exact z
theorem walk_l {K : PySem.W.Frag} {tb : Bool} {N : List Nat} {a : Addr} {xs : List D} : Walk K (Itl K a) tb xs (Src K N a xs true) where
  go := fun g H i h _ hi => by
    obtain ⟨vs, q, al⟩ := sq_l h
    obtain ⟨v, e, _⟩ := al.get (List.getElem?_eq_getElem hi)
    exact ⟨vs, v, q, e⟩
  yd := fun g H i v H' h _ hi ⟨e, y⟩ => by
    obtain ⟨vs, q, al⟩ := sq_l h
    subst e
    obtain ⟨x, ex, r⟩ := al.getV (y vs q)
    exact ⟨fun _ _ q => q, x, ex, .inl r⟩
  stop := fun g H h => by
    obtain ⟨vs, q, al⟩ := sq_l h
    exact ⟨vs, q, Nat.le_of_eq al.length⟩
  lenL := fun g H h => src_len h
theorem walk_t {K : PySem.W.Frag} {tb : Bool} {N : List Nat} {a : Addr} {xs : List D} : Walk K (Itt K a) tb xs (Src K N a xs false) where
  go := fun g H i h _ hi => by
    obtain ⟨vs, q, al⟩ := sq_t h
    obtain ⟨v, e, _⟩ := al.get (List.getElem?_eq_getElem hi)
    exact ⟨vs, v, q, e⟩
  yd := fun g H i v H' h _ hi ⟨e, y⟩ => by
    obtain ⟨vs, q, al⟩ := sq_t h
    subst e
    obtain ⟨x, ex, r⟩ := al.getV (y vs q)
    exact ⟨fun _ _ q => q, x, ex, .inl r⟩
  stop := fun g H h => by
    obtain ⟨vs, q, al⟩ := sq_t h
    exact ⟨vs, q, Nat.le_of_eq al.length⟩
  lenL := fun g H h => src_len h
variable {κ : List SK} {M : List Nat} {k kb : RK} {a b : Expr} {w wb : WE} {p pos : Pos}
theorem si_seq (ha : SE X κ M k a w) (pa : k.rdable = true := by rfl) : SI X κ M (nOf k) tg a (wiSeq w) :=
  SI.of (pi_seq ha) fun σ H R ⟨g, env, W, F, hw, post⟩ => ⟨g, env, _, F, hw, fun v H1 g1 e1 d F1 s1 r1 ⟨xs, ex, w1⟩ => by
    obtain ⟨c, l, rfl, sr⟩ := src_of F1 pa r1 ex
    refine ⟨c, rfl, ?_⟩
    cases l with
    | true =>
      obtain ⟨vs, q, _⟩ := sq_l sr
      exact .inl ⟨vs, q, post _ H1 g1 e1 xs _ F1 s1 sr (src_holds (n9 _)) walk_l w1⟩
    | false =>
      obtain ⟨vs, q, _⟩ := sq_t sr
      exact .inr ⟨vs, q, post _ H1 g1 e1 xs _ F1 s1 sr (src_holds (n9 _)) walk_t w1⟩⟩
theorem rangeD_len (lo hi : Int) : (rangeD lo hi).length = (hi - lo).toNat := by simp [rangeD]
theorem rangeD_get {lo hi : Int} {i : Nat} (h : i < (hi - lo).toNat) : (rangeD lo hi)[i]? = some (.int (lo + (i : Int))) := by
  unfold rangeD
  rw [List.getElem?_map, List.getElem?_range h]
  rfl
theorem walk_r {K : PySem.W.Frag} {tb : Bool} {lo hi : Int} (hl : (hi - lo).toNat ≤ sizeLine) : Walk K (Itr lo (hi - lo).toNat) tb (rangeD lo hi) (fun _ _ => True) where
  go := fun g H i _ _ hi => by rw [rangeD_len] at hi; exact hi
  yd := fun g H i v H' _ _ hi ⟨e, y⟩ => by
    rw [rangeD_len] at hi
    subst e y
    exact ⟨fun _ _ q => q, _, rangeD_get hi, .inl (.int _)⟩
  stop := fun g H _ => by rw [rangeD_len]; exact Nat.le_refl _
  lenL := fun g H _ => by rw [rangeD_len]; exact hl
theorem lim_eq : lim = 1000000 := rfl
theorem si_rg1 (hg : Gl X "range") (hm : X.mg "range" = none) (ha : SE X κ M k a w) (pa : k.rdable = true := by rfl) (hs : starEach [a] X.env = [(false, eval a X.env)] := by rfl) (he : starEach [a] X.env = (false, eval a X.env) :: starEach [] X.env := by rfl) : SI X κ M [] tg (.Call (.Name "range" p) [a] [] pos) (wiRg1 w) :=
  SI.of (pi_range1 hg hm (pa_cons ha pa_nil he) hs) fun σ H R ⟨g, env, W, F, hw, post⟩ => ⟨g, env, _, F, hw, fun v H1 g1 e1 d F1 s1 r1 ⟨n, e, hn0, hn, w1⟩ => by
    subst e
    have ev := (r1.rdb pa).toInt
    subst ev
    have hl := lim_eq
    refine ⟨n, rfl, by omega, by omega, ?_⟩
    have e0 : n.toNat = (n - 0).toNat := by simp
    rw [e0]
    exact post _ H1 g1 e1 _ _ F1 s1 trivial (fun _ _ _ _ _ _ _ _ _ _ _ _ _ _ _ => trivial) (walk_r (lim_line (by omega))) w1⟩
theorem si_rg2 (hg : Gl X "range") (hm : X.mg "range" = none) (ha : SE X κ M k a w) (hb : SE X κ M kb b wb) (st : stable k M = true := by rfl) (pa : k.rdable = true := by rfl) (pb : kb.rdable = true := by rfl) (hs : starEach [a, b] X.env = [(false, eval a X.env), (false, eval b X.env)] := by rfl) (hs2 : starEach [b] X.env = [(false, eval b X.env)] := by rfl)
    (he : starEach [a, b] X.env = (false, eval a X.env) :: starEach [b] X.env := by rfl) (he2 : starEach [b] X.env = (false, eval b X.env) :: starEach [] X.env := by rfl) : SI X κ M [] tg (.Call (.Name "range" p) [a, b] [] pos) (wiRg2 w wb) :=
  SI.of (pi_range2 hg hm (pa_cons ha (pa_cons hb pa_nil he2) he) hs hs2) fun σ H R ⟨g, env, W, F, hw, post⟩ => ⟨g, env, _, F, hw, fun v H1 g1 e1 d F1 s1 r1 w1 => ⟨g1, e1, _, F1, w1, fun u H2 g2 e2 d2 F2 s2 r2 ⟨m, n, em, en, h1, h2, h3, h4, w2⟩ => by
    subst em en
    have ev := (r1.rdb pa).toInt
    have eu := (r2.rdb pb).toInt
    subst ev eu
    have hl := lim_eq
    refine ⟨m, n, rfl, ⟨by omega, by omega, by omega, by omega⟩, ?_⟩
    refine post _ H2 g2 e2 _ _ F2 (s1.tr s2 F F1) trivial (fun _ _ _ _ _ _ _ _ _ _ _ _ _ _ _ => trivial) (walk_r ?_) w2
    rw [sizeLine_eq]; omega⟩⟩
def sameK (x y : D) : Bool := match x, y with
  | .list _, .list _ => true
  | .tuple _, .tuple _ => true
  | _, _ => false
def wiZip2 (a b : WE) : WI := fun e Q => a e fun x e1 => b e1 fun y e2 => ∃ xs ys, sameK x y = true ∧ seqD x = some xs ∧ seqD y = some ys ∧ Q (zipD xs ys) e2
section
variable {elt iter : Expr} {ifs : List Expr} {scope : Scope} {own : List (Str × Nat)} {wi : WI} {N : List Nat} {f : WG} {ts : List Nat} {t : WT}
def SPs (X : Cx) (κ : List SK) (M : List Nat) (ifs : List Expr) (t : WT) : Prop := PTs X ifs (cT X.K κ M t)
theorem sp_nil : SPs X κ M [] G7.tYes := ⟨fun pins s0 σ H Q I ⟨g, env, W, F, hw, post⟩ => pts_nil.run pins s0 σ H Q I (post true H g env F .refl hw)⟩
theorem sp_one {c : Expr} (h : ST X κ M c t) : SPs X κ M [c] t := pts_one h
theorem se_lc (hc : X.calm = true) (hN : X.N.Nodup) (hi : SI X κ M N tg iter wi) (ok : BlkOk X.N X.env.scope scope own)
    (hg : ∀ (s : Shared) (H : Hp) (C : Addr) (cl : List (Str × Addr)) (fp : List Addr), SG (X.blk s H scope (compEnvC scope cl C X.env) fp) κ ts tg f) (ht : ∀ (s : Shared) (H : Hp) (C : Addr) (cl : List (Str × Addr)) (fp : List Addr), SPs (X.blk s H scope (compEnvC scope cl C X.env) fp) κ M ifs t)
    (he : ∀ (s : Shared) (H : Hp) (C : Addr) (cl : List (Str × Addr)) (fp : List Addr), SE (X.blk s H scope (compEnvC scope cl C X.env) fp) κ M .fz elt w) (hv : ∀ i ∈ own.map (·.2), kindOf κ i = .v := by decide) (hts : ∀ i ∈ ts, i ∈ own.map (·.2) := by decide) (dis : ∀ i ∈ M, i ∉ N := by decide) (hs : ∀ x, foldedSetIterable iter X.env x = pure x := by intro _; rfl) :
    SE X κ M .nw (.ListComp elt [⟨tg, iter, ifs, 0⟩] scope pos) (wComp wi f (own.map (·.2)) t w) :=
  SE.of (pe_lc (g := cG X.K κ ts (isTupE tg) f) (tt := cT X.K κ M t) (te := cE X.K κ M .fz w) hc hN hi ok hg ht he hs) fun σ H Q h => comp_go hv hts dis σ H Q h
theorem ps_lcAsg {i : Nat} {y : Str} {py spos : Pos} (hc : X.calm = true) (hN : X.N.Nodup) (hy : X.N[i]? = some y) (hyl : X.env.scope.names.lookup y = some .local) (hsw : swapsWith (.ListComp elt [⟨tg, iter, ifs, 0⟩] scope pos) (some (.Name y py)) spos.line X.env = pure true) (hi : SI X κ M N tg iter wi) (ok : BlkOk X.N X.env.scope scope own)
    (hg : ∀ (s : Shared) (H : Hp) (C : Addr) (cl : List (Str × Addr)) (fp : List Addr), SG (X.blk s H scope (compEnvC scope cl C X.env) fp) κ ts tg f) (ht : ∀ (s : Shared) (H : Hp) (C : Addr) (cl : List (Str × Addr)) (fp : List Addr), SPs (X.blk s H scope (compEnvC scope cl C X.env) fp) κ M ifs t)
    (he : ∀ (s : Shared) (H : Hp) (C : Addr) (cl : List (Str × Addr)) (fp : List Addr), SE (X.blk s H scope (compEnvC scope cl C X.env) fp) κ M .fz elt w) (hv : ∀ i ∈ own.map (·.2), kindOf κ i = .v) (hts : ∀ i ∈ ts, i ∈ own.map (·.2)) (dis : ∀ i ∈ M, i ∉ N) (hs : ∀ x, foldedSetIterable iter X.env x = pure x) :
    PS X (.Assign [.Name y py] (.ListComp elt [⟨tg, iter, ifs, 0⟩] scope pos) spos) (tAsg (cE X.K κ M .nw (wComp wi f (own.map (·.2)) t w)) (gName i)) :=
  ⟨fun pins s0 σ H D I h => (ps_setLc (g := cG X.K κ ts (isTupE tg) f) (tt := cT X.K κ M t) (te := cE X.K κ M .fz w) hc hN hy hyl hsw hi ok hg ht he hs).run pins s0 σ H D I (comp_go hv hts dis σ H _ h)⟩
theorem cE_nf (σ : St) (H : Hp) (Q : VK) (h : cE X.K κ M .fz w σ H Q) : cE X.K κ M .nw w σ H Q := by
  obtain ⟨g, env, W, F, hw, post⟩ := h
  refine ⟨g, env, W, F, hw, fun v H' g' env' d F' s ⟨p, e1, n, hO, hP, r⟩ wd => ?_⟩
  subst e1
  have F2 : Frm X.K κ { g' with O := g.O } env' σ H' := F'.less rfl rfl rfl (fun a q => F.il a (by rw [← s.I]; exact q)) (fun a q => (F.pl a (by rw [← s.P]; exact q)).1) s.up
  refine post _ H' { g' with O := g.O } env' d F2 ⟨s.al, s.P, s.I, fun _ q => q, fun _ q => .inl q, s.keep, s.pool⟩ ?_ wd
  have sub : ∀ a, Rg.own { g' with O := g.O } a → g'.own a := fun a q => q.imp (s.up a) id
  have np : ¬ Rg.own { g' with O := g.O } p := fun q => by
    rcases q with q | ⟨i, q⟩
    · exact F.ot p q n
    · exact (F'.alo i p q).1 hO
  exact (r.keep (S' := Rg.own { g' with O := g.O }) (H' := H') (fun _ q => q) (fun _ _ _ q => q) fun a q => .inl (sub a q)).rep np
variable {M2 : List Nat} {rk : RK}
/-- name = [..], an own slot -/
theorem ss_lcO {i : Nat} {y : Str} {py spos : Pos} (hc : X.calm = true) (hN : X.N.Nodup) (hy : X.N[i]? = some y) (hyl : X.env.scope.names.lookup y = some .local) (hsw : swapsWith (.ListComp elt [⟨tg, iter, ifs, 0⟩] scope pos) (some (.Name y py)) spos.line X.env = pure true) (hi : SI X κ M N tg iter wi) (ok : BlkOk X.N X.env.scope scope own)
    (hg : ∀ (s : Shared) (H : Hp) (C : Addr) (cl : List (Str × Addr)) (fp : List Addr), SG (X.blk s H scope (compEnvC scope cl C X.env) fp) κ ts tg f) (ht : ∀ (s : Shared) (H : Hp) (C : Addr) (cl : List (Str × Addr)) (fp : List Addr), SPs (X.blk s H scope (compEnvC scope cl C X.env) fp) κ M ifs t)
    (he : ∀ (s : Shared) (H : Hp) (C : Addr) (cl : List (Str × Addr)) (fp : List Addr), SE (X.blk s H scope (compEnvC scope cl C X.env) fp) κ M .fz elt w) (hk : kindOf κ i = .o := by decide) (hm : i ∈ M2 := by decide) (hv : ∀ i ∈ own.map (·.2), kindOf κ i = .v := by decide) (hts : ∀ i ∈ ts, i ∈ own.map (·.2) := by decide) (dis : ∀ i ∈ M, i ∉ N := by decide) (sub : ∀ i ∈ M, i ∈ M2 := by decide) (hs : ∀ x, foldedSetIterable iter X.env x = pure x := by intro _; rfl) :
    SS X κ M2 rk (.Assign [.Name y py] (.ListComp elt [⟨tg, iter, ifs, 0⟩] scope pos) spos) (wAsg i (wComp wi f (own.map (·.2)) t w)) := ss_tAsgO (ps_lcAsg hc hN hy hyl hsw hi ok hg ht he hv hts dis hs) hk hm sub
/-- .. a slot of told things -/
theorem ss_lcV {i : Nat} {y : Str} {py spos : Pos} (hc : X.calm = true) (hN : X.N.Nodup) (hy : X.N[i]? = some y) (hyl : X.env.scope.names.lookup y = some .local) (hsw : swapsWith (.ListComp elt [⟨tg, iter, ifs, 0⟩] scope pos) (some (.Name y py)) spos.line X.env = pure true) (hi : SI X κ M N tg iter wi) (ok : BlkOk X.N X.env.scope scope own)
    (hg : ∀ (s : Shared) (H : Hp) (C : Addr) (cl : List (Str × Addr)) (fp : List Addr), SG (X.blk s H scope (compEnvC scope cl C X.env) fp) κ ts tg f) (ht : ∀ (s : Shared) (H : Hp) (C : Addr) (cl : List (Str × Addr)) (fp : List Addr), SPs (X.blk s H scope (compEnvC scope cl C X.env) fp) κ M ifs t)
    (he : ∀ (s : Shared) (H : Hp) (C : Addr) (cl : List (Str × Addr)) (fp : List Addr), SE (X.blk s H scope (compEnvC scope cl C X.env) fp) κ M .fz elt w) (hk : kindOf κ i = .v := by decide) (hv : ∀ i ∈ own.map (·.2), kindOf κ i = .v := by decide) (hts : ∀ i ∈ ts, i ∈ own.map (·.2) := by decide) (dis : ∀ i ∈ M, i ∉ N := by decide) (sub : ∀ i ∈ M, i ∈ M2 := by decide) (hs : ∀ x, foldedSetIterable iter X.env x = pure x := by intro _; rfl) :
    SS X κ M2 rk (.Assign [.Name y py] (.ListComp elt [⟨tg, iter, ifs, 0⟩] scope pos) spos) (wAsg i (wComp wi f (own.map (·.2)) t w)) :=
  ss_tAsg ⟨fun pins s0 σ H D I h => (ps_lcAsg hc hN hy hyl hsw hi ok hg ht he hv hts dis hs).run pins s0 σ H D I (cE_nf σ H _ h)⟩ hk sub
end
theorem md_append {K : PySem.W.Frag} : MtD K rAppend appendF [.fz] := by
  intro κ g env σ H0 H a xs dxs ds dxs' vs z Q F hO hH zl al r e h
  match ds, vs, r, e with
  | [d], [v], r, e =>
    simp only [appendF] at e
    split at e
    · rename_i hl
      cases e
      have hz : xs.length < sizeLine := by rw [al.length]; exact Nat.lt_of_lt_of_le hl (by rw [sizeLine_eq]; decide)
      exact ⟨a, xs, v, rfl, rfl, hH, hz, h _ _ (al.append (.cons r.1 .nil)) (by simp; omega) .non⟩
    · cases e
theorem md_popAt {K : PySem.W.Frag} : MtD K rPopAt popAtF [.fz] := by
  intro κ g env σ H0 H a xs dxs ds dxs' vs z Q F hO hH zl al r e h
  match ds, vs, r, e with
  | [.int i], [u], r, e =>
    simp only [popAtF, Option.bind_eq_some_iff, Option.map_eq_some_iff] at e
    obtain ⟨j, ej, d, ed, e⟩ := e
    cases e
    have hu : u = .int i := Rep.toInt r.1
    subst hu
    obtain ⟨v, ev, rv⟩ := al.get ed
    have ej' : L2.ixN xs.length i = some j := by rw [al.length]; exact ej
    obtain ⟨h1, h2, h3, h4⟩ := ixN_seq ej'
    have hs := sizeLine_eq
    exact ⟨a, xs, i, j, v, rfl, rfl, hH, by omega, by omega, h1, ev, h v _ (al.eraseIdx j) (Nat.le_trans (len_erase _ _) zl) rv⟩
end
def skOf : PM → SK
  | .fz => .v
  | .rd => .r
  | .pl => .p
section
variable {P : Program} {w : World} {K : PySem.W.Frag} {mg : Str → Option Value} {base : Heap}
def startE (n : Nat) (ds : List D) : En := ds.map some ++ List.replicate (n - ds.length) none
theorem args_slot {H : Hp} {O P' : Addr → Prop} : ∀ {ms : List PM} {vs : List V} {ds : List D} {i : Nat} {d : D}, ArgsOk K H O P' ms vs ds → ds[i]? = some d → ∃ v m, vs[i]? = some v ∧ ms[i]? = some m ∧ ArgOk K H O P' m v d
  | [], [], [], i, d, _, e => by simp at e
  | m :: ms, v :: vs, d :: ds, 0, d', h, e => by
    simp at e; subst e
    exact ⟨v, m, rfl, rfl, h.1⟩
  | m :: ms, v :: vs, d :: ds, i + 1, d', h, e => by
    obtain ⟨v', m', h1, h2, h3⟩ := args_slot (i := i) (d := d') h.2 (by simpa using e)
    exact ⟨v', m', by simpa using h1, by simpa using h2, h3⟩
  | [], [], _ :: _, _, _, h, _ => h.elim
  | [], _ :: _, _, _, _, h, _ => h.elim
  | _ :: _, [], _, _, _, h, _ => h.elim
  | _ :: _, _ :: _, [], _, _, h, _ => h.elim
theorem fn_def {x qual : Str} {st : Stmt} {f : Addr} {fd : FuncData} {N ps : List Str} {lv : Nat} {κ : List SK} {M : List Nat} {rk : RK} {S : FS} {wb : WS} (ms : List PM) (F : Fun K x qual st f fd) (Sc : FnScope N ps (defScope st)) (hκ : κ.length = N.length) (hms : ms.length = ps.length)
    (hp : κ.take ms.length = ms.map skOf) (hr : rk = .fz ∨ rk = .nw) (hq : ∀ i, kindOf κ i ≠ .q)
    (body : ∀ (cdv : Value) (A : Around) (outer : List Env) (s : Shared) (H : Hp) (E : XK), Room lv (A.deeper (envOfC qual (defScope st) s.heap.objs.size f cdv)) →
      SSs (cxOf CX0 P w K mg base N qual (defScope st) f cdv A outer s H E).nox κ M rk (defBody st) wb)
    (math : ∀ ds Post, S ds Post → wb { nx := fun _ => Post .none ∧ rk = .fz, rt := fun d _ => Post d } (startE N.length ds)) (hv : 999 ∉ M := by decide) :
    FnOk P w K mg base CX0 (lv + 1) f fd ps (spOf K ms rk S) := by
  refine F.ok Sc (fun vs H Q E h => ?_) fun cdv A outer s H vs Q E hroom h => ?_
  · obtain ⟨O, P', ds, Post, _, _, ha, _⟩ := h
    rw [ha.len.1, hms]
  · obtain ⟨O, P', ds, Post, hO, hP, ha, hS, k⟩ := h
    refine ⟨_, body cdv A outer s H E hroom, ?_⟩
    have hl := ha.len
    have hle : ps.length ≤ N.length := by
      have := congrArg List.length Sc.pre
      rw [List.length_take] at this; omega
    have Fr0 : Frm K κ ⟨O, P', O, fun _ => none⟩ (startE N.length ds) (L2.start N vs) H := by
      refine ⟨by simp [startE, hκ]; omega, by simp [L2.start, hκ]; omega, fun i d e => ?_, fun i j a (e : none = some a) => (nomatch e), fun i a (e : none = some a) => (nomatch e), hO, fun _ q => q, hP⟩
      unfold startE at e
      by_cases hi : i < ds.length
      · rw [List.getElem?_append_left (by simpa using hi)] at e
        rw [List.getElem?_map] at e
        cases q : ds[i]? with
        | none => rw [q] at e; cases e
        | some d' =>
          rw [q] at e
          have e' : d' = d := by simpa using e
          subst e'
          obtain ⟨v, m, h1, h2, h3⟩ := args_slot ha q
          refine ⟨v, ?_, ?_⟩
          · unfold L2.start
            rw [List.getElem?_append_left (by rw [List.length_map]; exact (List.getElem?_eq_some_iff.mp h1).1), List.getElem?_map, h1]
            rfl
          · have hk : kindOf κ i = skOf m := by
              unfold kindOf
              have : (κ.take ms.length)[i]? = some (skOf m) := by rw [hp, List.getElem?_map, h2]; rfl
              rw [List.getElem?_take] at this
              split at this
              · rw [this]; rfl
              · cases this
            rw [hk]
            have own : ∀ a, Rg.own ⟨O, P', O, fun _ => none⟩ a → O a := fun a q => q.elim id fun ⟨_, (e : none = some a)⟩ => nomatch e
            have up : ∀ {v d}, Rep K H O v d → Rep K H (Rg.own ⟨O, P', O, fun _ => none⟩) v d := fun r => r.keep (fun _ _ _ q => q) fun a q => .inl (own a q)
            cases m with
            | fz => exact up h3
            | rd =>
              rcases h3 with h3 | ⟨a, e1, np, ho, r⟩
              · exact .inl (up h3)
              · exact .inr ⟨a, e1, np, ho, r.keep (fun _ q => q) (fun _ _ _ q => q) fun a q => .inl (own a q)⟩
            | pl => exact h3
      · rw [List.getElem?_append_right (by simpa using hi)] at e
        rw [List.getElem?_replicate] at e
        split at e <;> cases e
    have nb : ∀ a, baseO κ ⟨O, P', O, fun _ => none⟩ a → O a := fun a q => q.elim id fun ⟨i, hk, _⟩ => absurd hk (hq i)
    have ob : ∀ a, O a → baseO κ ⟨O, P', O, fun _ => none⟩ a := fun a q => .inl q
    have fin : ∀ {g' : Rg} {env' : En} {σ' : St} {H' : Hp} {v : V} {d : D}, Frm K κ g' env' σ' H' → SStep κ M ⟨O, P', O, fun _ => none⟩ g' H H' → ResR K κ rk ⟨O, P', O, fun _ => none⟩ H H' v d → Post d → Q v H' := by
      intro g' env' σ' H' v d F' s' r pd
      refine k v H' d pd (fun b o e np => s'.keep b o e np (fun _ _ (z : none = some b) => nomatch z) fun h => absurd h hv) (fun b p => s'.pool b p) ?_
      rcases hr with e | e <;> subst e
      · exact Rep.keep (fun _ _ _ q => q) (fun a q => .inl (ob a q)) r
      · obtain ⟨p, e1, n, r⟩ := r
        have n' : H p = none := n.elim id fun ⟨_, _, (z : none = some p)⟩ => nomatch z
        exact ⟨p, e1, n', r.keep (fun _ q => q) (fun _ _ _ q => q) fun a (q : O a ∨ a = p) => .inl (q.imp (ob a) id)⟩
    exact ⟨⟨O, P', O, fun _ => none⟩, startE N.length ds, _, Fr0, math ds Post hS, fun g' env' σ' H' F' s' ⟨pd, er⟩ => fin F' s' (by subst er; exact .non) pd, fun _ _ _ _ _ _ q => q.elim, fun _ _ _ _ _ _ q => q.elim,
      fun g' env' σ' H' v d F' s' r pd => fin F' s' r pd⟩
/-- the promise of the law: nothing is said of what it was handed -/
def spOfL (K : PySem.W.Frag) (ms : List PM) (k : RK) (S : FS) : Sp := fun vs H Q _ => ∃ (O P : Addr → Prop) (ds : List D) (Post : D → Prop),
  (∀ a, O a → Tk H a) ∧ (∀ a, P a → O a ∧ Pool H a) ∧ ArgsOk K H O P ms vs ds ∧ S ds Post ∧
  ∀ v H' d, Post d → (∀ b, P b → Pool H' b) → ResC K k H H' O v d → Q v H'
theorem fn_defL {x qual : Str} {st : Stmt} {f : Addr} {fd : FuncData} {N ps : List Str} {lv : Nat} {κ : List SK} {M : List Nat} {rk : RK} {S : FS} {wb : WS} (ms : List PM) (F : Fun K x qual st f fd) (Sc : FnScope N ps (defScope st)) (hκ : κ.length = N.length) (hms : ms.length = ps.length)
    (hp : κ.take ms.length = ms.map skOf) (hr : rk = .fz ∨ rk = .nw) (hq : ∀ i, kindOf κ i ≠ .q)
    (body : ∀ (cdv : Value) (A : Around) (outer : List Env) (s : Shared) (H : Hp) (E : XK), Room lv (A.deeper (envOfC qual (defScope st) s.heap.objs.size f cdv)) →
      SSs (cxOf CX0 P w K mg base N qual (defScope st) f cdv A outer s H E).nox κ M rk (defBody st) wb)
    (math : ∀ ds Post, S ds Post → wb { nx := fun _ => Post .none ∧ rk = .fz, rt := fun d _ => Post d } (startE N.length ds)) :
    FnOk P w K mg base CX0 (lv + 1) f fd ps (spOfL K ms rk S) := by
  refine F.ok Sc (fun vs H Q E h => ?_) fun cdv A outer s H vs Q E hroom h => ?_
  · obtain ⟨O, P', ds, Post, _, _, ha, _⟩ := h
    rw [ha.len.1, hms]
  · obtain ⟨O, P', ds, Post, hO, hP, ha, hS, k⟩ := h
    refine ⟨_, body cdv A outer s H E hroom, ?_⟩
    have hl := ha.len
    have hle : ps.length ≤ N.length := by
      have := congrArg List.length Sc.pre
      rw [List.length_take] at this; omega
    have Fr0 : Frm K κ ⟨O, P', O, fun _ => none⟩ (startE N.length ds) (L2.start N vs) H := by
      refine ⟨by simp [startE, hκ]; omega, by simp [L2.start, hκ]; omega, fun i d e => ?_, fun i j a (e : none = some a) => (nomatch e), fun i a (e : none = some a) => (nomatch e), hO, fun _ q => q, hP⟩
      unfold startE at e
      by_cases hi : i < ds.length
      · rw [List.getElem?_append_left (by simpa using hi)] at e
        rw [List.getElem?_map] at e
        cases q : ds[i]? with
        | none => rw [q] at e; cases e
        | some d' =>
          rw [q] at e
          have e' : d' = d := by simpa using e
          subst e'
          obtain ⟨v, m, h1, h2, h3⟩ := args_slot ha q
          refine ⟨v, ?_, ?_⟩
          · unfold L2.start
            rw [List.getElem?_append_left (by rw [List.length_map]; exact (List.getElem?_eq_some_iff.mp h1).1), List.getElem?_map, h1]
            rfl
          · have hk : kindOf κ i = skOf m := by
              unfold kindOf
              have : (κ.take ms.length)[i]? = some (skOf m) := by rw [hp, List.getElem?_map, h2]; rfl
              rw [List.getElem?_take] at this
              split at this
              · rw [this]; rfl
              · cases this
            rw [hk]
            have own : ∀ a, Rg.own ⟨O, P', O, fun _ => none⟩ a → O a := fun a q => q.elim id fun ⟨_, (e : none = some a)⟩ => nomatch e
            have up : ∀ {v d}, Rep K H O v d → Rep K H (Rg.own ⟨O, P', O, fun _ => none⟩) v d := fun r => r.keep (fun _ _ _ q => q) fun a q => .inl (own a q)
            cases m with
            | fz => exact up h3
            | rd =>
              rcases h3 with h3 | ⟨a, e1, np, ho, r⟩
              · exact .inl (up h3)
              · exact .inr ⟨a, e1, np, ho, r.keep (fun _ q => q) (fun _ _ _ q => q) fun a q => .inl (own a q)⟩
            | pl => exact h3
      · rw [List.getElem?_append_right (by simpa using hi)] at e
        rw [List.getElem?_replicate] at e
        split at e <;> cases e
    have nb : ∀ a, baseO κ ⟨O, P', O, fun _ => none⟩ a → O a := fun a q => q.elim id fun ⟨i, hk, _⟩ => absurd hk (hq i)
    have ob : ∀ a, O a → baseO κ ⟨O, P', O, fun _ => none⟩ a := fun a q => .inl q
    have fin : ∀ {g' : Rg} {env' : En} {σ' : St} {H' : Hp} {v : V} {d : D}, Frm K κ g' env' σ' H' → SStep κ M ⟨O, P', O, fun _ => none⟩ g' H H' → ResR K κ rk ⟨O, P', O, fun _ => none⟩ H H' v d → Post d → Q v H' := by
      intro g' env' σ' H' v d F' s' r pd
      refine k v H' d pd (fun b p => s'.pool b p) ?_
      rcases hr with e | e <;> subst e
      · exact Rep.keep (fun _ _ _ q => q) (fun a q => .inl (ob a q)) r
      · obtain ⟨p, e1, n, r⟩ := r
        have n' : H p = none := n.elim id fun ⟨_, _, (z : none = some p)⟩ => nomatch z
        exact ⟨p, e1, n', r.keep (fun _ q => q) (fun _ _ _ q => q) fun a (q : O a ∨ a = p) => .inl (q.imp (ob a) id)⟩
    exact ⟨⟨O, P', O, fun _ => none⟩, startE N.length ds, _, Fr0, math ds Post hS, fun g' env' σ' H' F' s' ⟨pd, er⟩ => fin F' s' (by subst er; exact .non) pd, fun _ _ _ _ _ _ q => q.elim, fun _ _ _ _ _ _ q => q.elim,
      fun g' env' σ' H' v d F' s' r pd => fin F' s' r pd⟩
end
theorem script_rep {K : PySem.W.Frag} {H : Hp} {a : Addr} {ns : List Int} (h : Rd H a (.lst (ns.map V.int))) (hl : ns.length ≤ 63) : ObjR K H (fun b => b = a) a (.list (ns.map .int)) :=
  .lst h (by rw [List.length_map, sizeLine_eq]; omega) (repInts ns)
theorem rd_tk {H : Hp} {a : Addr} {xs : List V} (h : Rd H a (.lst xs)) : Tk H a := by
  rcases h with h | ⟨o, h⟩
  · exact ⟨by rw [h]; simp, fun ys z => by rw [h] at z; cases z⟩
  · exact ⟨by rw [h]; simp, fun ys z => by rw [h] at z; cases z⟩
def lawS : FS := fun ds Post => ∃ ns : List Int, ds = [.list (ns.map .int)] ∧ ns.length ≤ 63 ∧ Post (.bool true)
end G7

set_option maxRecDepth 100000
namespace G7
open PySem PySem.Spec PyProof.Rows L2

/-- a def as its callers use it -/
structure FnB (P : Program) (w : World) (K : PySem.W.Frag) (mg : Str → Option Value) (base : Heap) (lv : Nat) (x : Str) (ps : List Str) (ms : List PM) (k : RK) (S : FS) : Prop where
  ex : ∃ f fd, FnOk P w K mg base CX0 lv f fd ps (spOf K ms k S) ∧ mg x = some (.ref f) ∧ PySem.W.keepIn K (.ref f) = true ∧ L2.Binds K fd ps []
section
variable {X : Cx} {κ : List SK} {M Me : List Nat} {k rk ka kb : RK} {pos : Pos} {a b e : Expr} {w wa wb : WE}
theorem se_fn {lv lc : Nat} {ps : List Str} {ms : List PM} {S : FS} {x : Str} {p : Pos} {e : Expr} {es : List Expr} {ks : List RK} {wl : WA} (G : FnB X.prog X.w X.K X.mg X.base lc x ps ms k S) (hr : Room lv X.A) (hg : Gl X x) (ha : SA X κ M ks (e :: es) wl) (hl : lc ≤ lv := by decide)
    (hp : passA ks ms = true := by rfl) (kk : k = .fz ∨ k = .nw := by first | exact .inl rfl | exact .inr rfl) (hdb : (x == ("__debug__" : Str)) = false := by decide)
    (he : starEach (e :: es) X.env = (false, eval e X.env) :: starEach es X.env := by rfl) (hpl : (backTo pos (starEach es X.env)).any (·.1) = false := by rfl) : SE X κ M k (.Call (.Name x p) (e :: es) [] pos) (wCall S wl) := by
  obtain ⟨f, fd, F, hm, hk, hb⟩ := G.ex
  exact se_call F (hr.mono hl) hg hm hk hb ha hp kk hdb he hpl
/-- a new list of three ints is handed over as a pool -/
def wNp (a : WE) : WE := fun e Q => a e fun d e1 => ∃ x y z : Int, d = .list [.int x, .int y, .int z] ∧ Q .none e1
theorem noq {κ : List SK} (h : κ.all (· != .q) = true) (i : Nat) : kindOf κ i ≠ .q := by
  unfold kindOf
  cases e : κ[i]? with
  | none => simp
  | some k =>
    have := List.all_eq_true.mp h k (List.mem_of_getElem? e)
    simpa using this
theorem room65 {lv : Nat} {A : Around} (hr : Room lv A) : A.units + 65 < cLine := by have := hr.un; omega
def repLD : D → D → Option D
  | .list a, .int k => if a.length ≤ 1000 ∧ -1000 ≤ k ∧ k ≤ 1000 then some (.list (List.replicate k.toNat a).flatten) else none
  | _, _ => none
def mulID : D → D → Option D
  | .int i, .int j => if okMul i j = true then some (.int (i * j)) else none
  | _, _ => none
theorem od_mulI {K : PySem.W.Frag} : OpD K (rI CMul fun i j => .int (i * j)) mulID .fz := by
  intro κ g env σ H x y dx dy dz Q F rx ry e h
  cases dx <;> cases dy <;> simp only [mulID] at e <;> first
    | (split at e
       · rename_i hm
         cases e; rw [rx.toInt, ry.toInt]; exact ⟨_, _, rfl, rfl, by simpa [okMul, CMul] using hm, ok_same F (.int _) h⟩
       · cases e)
    | cases e
def wLstRg (it : WI) : WE := fun e Q => it e fun xs e1 => Q (.list xs) e1
theorem rg_rep {K : PySem.W.Frag} {H : Hp} {S : Addr → Prop} (a b : Int) : RepAll K H S (rgV a b) (rangeD a b) := by
  unfold rgV rangeD
  induction (List.range (b - a).toNat) with
  | nil => exact .nil
  | cons x r ih => exact .cons (.int _) ih
theorem se_lstRg1 {p p2 pos2 : Pos} (hg : Gl X "list") (hm : X.mg "list" = none) (hg2 : Gl X "range") (hm2 : X.mg "range" = none) (ha : SE X κ M ka a wa) (pa : ka.rdable = true := by rfl) (na : starEach [.Call (.Name "range" p2) [a] [] pos2] X.env = (false, eval (.Call (.Name "range" p2) [a] [] pos2) X.env) :: starEach [] X.env := by rfl)
    (na2 : starEach [a] X.env = (false, eval a X.env) :: starEach [] X.env := by rfl) (hc : X.calm = true := by rfl) : SE X κ M .nw (.Call (.Name "list" p) [.Call (.Name "range" p2) [a] [] pos2] [] pos) (wLstRg (wiRg1 wa)) :=
  SE.of (pe_listRg hc hg hm (prg_1 hg2 hm2 ha na2) na) fun σ H Q ⟨g, env, W, F, hw, post⟩ => ⟨g, env, _, F, hw, fun v H1 g1 e1 d F1 s1 r1 ⟨n, e, hn0, hn, w1⟩ => by
    subst e
    have ev := (r1.rdb pa).toInt
    subst ev
    have hl := lim_eq
    refine ⟨n, rfl, ⟨by omega, by omega, by omega, by omega, by omega⟩, fun q nq => ok_lstN F1 (rg_rep 0 n) (by rw [rgV_length, sizeLine_eq]; omega) nq fun v H2 g2 F2 s2 r2 => ?_⟩
    exact post v H2 g2 e1 _ F2 (s1.tr (s2.mono fun _ q => nomatch q) F F1) (r2.back fun p q => s1.there F F1 q) w1⟩
def wPlIx (i : Nat) : WE := fun e Q => e[i]? = some (some .none) ∧ ∀ x : Int, Q (.int x) e
theorem se_plix {i : Nat} {x : Str} {px p2 : Pos} {c : Int} {j : Nat} (ho : PE X (.Name x px) (tVar i)) (hk : kindOf κ i = .p) (hc : c = 0 ∨ c = 1 ∨ c = 2 := by decide) (hx : PlainIx (.Constant (.int c) j p2) := by exact fun _ _ => rfl) : SE X κ M .fz (.Subscript (.Name x px) (.Constant (.int c) j p2) pos) (wPlIx i) :=
  SE.of (pe_ix ix_list ho pe_int hx) fun σ H Q ⟨g, env, W, F, ⟨he, hw⟩, post⟩ => by
    obtain ⟨v, sv, sl⟩ := F.ev i _ he
    rw [hk] at sl
    obtain ⟨q, rfl, hp, _⟩ := sl
    obtain ⟨_, x0, x1, x2, hH⟩ := F.pl q hp
    have fin : ∀ y : Int, Q (.int y) H := fun y => post _ H g env _ F .refl (.int y) (hw y)
    rcases hc with rfl | rfl | rfl
    · exact ⟨_, sv, q, _, 0, .int x0, rfl, rfl, .inl (.inl hH), rfl, fin x0⟩
    · exact ⟨_, sv, q, _, 1, .int x1, rfl, rfl, .inl (.inl hH), rfl, fin x1⟩
    · exact ⟨_, sv, q, _, 2, .int x2, rfl, rfl, .inl (.inl hH), rfl, fin x2⟩
def wPlSet (i : Nat) (a : WE) : WS := fun W e => a e fun d e1 => ∃ y : Int, d = .int y ∧ e1[i]? = some (some .none) ∧ W.nx e1
theorem Frm.poolSet {K : PySem.W.Frag} {g : Rg} {env : En} {σ : St} {H : Hp} {q : Addr} {xs : List V} (F : Frm K κ g env σ H) (hp : g.P q) (hx : ∃ x y z : Int, xs = [.int x, .int y, .int z]) : Frm K κ g env σ (L2.upd H q (.lst xs)) :=
  F.next (fun b o e np => by rw [upd_ne (fun z => np (by rw [z]; exact hp))]; exact e) (fun b p => by
    by_cases hb : b = q
    · subst hb
      obtain ⟨x, y, z, e⟩ := hx
      exact ⟨x, y, z, by rw [upd_same, e]⟩
    · obtain ⟨x, y, z, e⟩ := (F.pl b p).2
      exact ⟨x, y, z, by rw [upd_ne hb]; exact e⟩) rfl rfl rfl (fun a p => (F.pl a p).1) F.il fun a q => .inl q
theorem ss_plset {i : Nat} {x : Str} {px p2 spos : Pos} {c : Int} {j : Nat} (ho : PE X (.Name x px) (tVar i)) (hv : SE X κ Me .fz e w) (hk : kindOf κ i = .p) (hc : c = 0 ∨ c = 1 ∨ c = 2 := by decide) (sub : ∀ i ∈ Me, i ∈ M := by decide)
    (ha : ∀ v, assign (.Subscript (.Name x px) (.Constant (.int c) j p2) spos) X.env v = (do
      let ov ← holding [v] (eval (.Name x px) X.env)
      let iv ← holding [v, ov] (eval (.Constant (.int c) j p2) X.env)
      standAt spos
      holding [v, ov, iv] (setItem ov iv v)
      release [v, ov, iv] []) := by intro _; rfl) (hs : swapsWithSole [.Subscript (.Name x px) (.Constant (.int c) j p2) spos] e pos.line X.env = pure false := by rfl) (hw : swappedStores [.Subscript (.Name x px) (.Constant (.int c) j p2) spos] e X.env = pure none := by rfl)
    (h1 : (assignEach [.Subscript (.Name x px) (.Constant (.int c) j p2) spos] X.env).map (·.2) = [assign (.Subscript (.Name x px) (.Constant (.int c) j p2) spos) X.env] := by rfl) : SS X κ M k (.Assign [.Subscript (.Name x px) (.Constant (.int c) j p2) spos] e pos) (wPlSet i w) :=
  SS.of (ps_asg hv (pg_sub ho pe_int set_list ha) hs hw h1) fun D σ H ⟨g, env, W, F, hw, n, b, _, r⟩ => ⟨g, env, _, F, hw, fun v H1 g1 e1 d F1 s1 r1 ⟨y, ed, he, w1⟩ => by
    subst ed
    have ev : v = .int y := Rep.toInt r1
    subst ev
    obtain ⟨v0, sv, sl⟩ := F1.ev i _ he
    rw [hk] at sl
    obtain ⟨q, rfl, hp, _⟩ := sl
    obtain ⟨_, x0, x1, x2, hH⟩ := F1.pl q hp
    have go : ∀ xs : List V, (∃ x y z : Int, xs = [.int x, .int y, .int z]) → D.nx σ (upd H1 q (.lst xs)) := fun xs hx => by
      have F2 := F1.poolSet hp hx
      refine n g1 e1 σ _ F2 (((s1.mono sub).toS F F1).trans ⟨fun _ q => q, fun _ q => .inl q, fun _ q => q, fun _ q => .inl q, fun _ _ q => .inl q, rfl, fun _ _ => rfl, fun b o e np _ _ => by rw [upd_ne (fun z => np (by rw [z]; exact hp))]; exact e, fun b nb => ?_, fun b p => (F2.pl b p).2⟩) w1
      by_cases hb : b = q
      · subst hb; rw [upd_same]; simp
      · rw [upd_ne hb]; exact nb
    rcases hc with rfl | rfl | rfl
    · exact ⟨_, sv, q, _, 0, 0, rfl, rfl, hH, rfl, go _ ⟨y, x1, x2, rfl⟩⟩
    · exact ⟨_, sv, q, _, 1, 1, rfl, rfl, hH, rfl, go _ ⟨x0, y, x2, rfl⟩⟩
    · exact ⟨_, sv, q, _, 2, 2, rfl, rfl, hH, rfl, go _ ⟨x0, x1, y, rfl⟩⟩⟩
end
theorem bt_len : bootBuiltins "len" = some (.builtin "len") := by decide +kernel
theorem bt_all : bootBuiltins "all" = some (.builtin "all") := by decide +kernel
theorem bt_max : bootBuiltins "max" = some (.builtin "max") := by decide +kernel
theorem bt_min : bootBuiltins "min" = some (.builtin "min") := by decide +kernel
theorem bt_sorted : bootBuiltins "sorted" = some (.builtin "sorted") := by decide +kernel
theorem bt_tuple : bootBuiltins "tuple" = some (.type "tuple") := by decide +kernel
theorem bt_list : bootBuiltins "list" = some (.type "list") := by decide +kernel
theorem bt_int : bootBuiltins "int" = some (.type "int") := by decide +kernel
theorem bt_bool : bootBuiltins "bool" = some (.type "bool") := by decide +kernel
theorem bt_str : bootBuiltins "str" = some (.type "str") := by decide +kernel
theorem kt_int : (["NoneType", "bool", "int", "str", "list", "tuple", "dict"].all fun t => kitB t "int" == some (isT "int" t)) = true := by decide +kernel
theorem kt_bool : (["NoneType", "bool", "int", "str", "list", "tuple", "dict"].all fun t => kitB t "bool" == some (isT "bool" t)) = true := by decide +kernel
theorem kt_tuple : (["NoneType", "bool", "int", "str", "list", "tuple", "dict"].all fun t => kitB t "tuple" == some (isT "tuple" t)) = true := by decide +kernel
def noList (K : PySem.W.Frag) : Bool := K.all fun p => !(p.2.cls == .type "list")
theorem no_list {K : PySem.W.Frag} (h : noList K = true) {a : Addr} {o : Obj} (e : K.lookup a = some o) : o.cls ≠ .type "list" := by
  induction K with
  | nil => simp at e
  | cons p r ih =>
    unfold noList at h
    simp only [List.all_cons, Bool.and_eq_true] at h
    obtain ⟨b, ob⟩ := p
    rw [List.lookup_cons] at e
    split at e
    · cases e
      intro z
      have := h.1
      simp only [z] at this
      revert this; decide +kernel
    · exact ih h.2 e
theorem law_sp {K : PySem.W.Frag} (hn : noList K = true) {H : Hp} {a : Addr} {ns : List Int} (hl : ns.length ≤ 63) (h : SqL K H a (ns.map V.int)) : spOfL K [.rd] .fz lawS [.ref a] H (fun v _ => v = .bl true) fun _ _ _ => False := by
  rcases h with h | ⟨o, its, n, e, c, _⟩
  · refine ⟨fun b => b = a, fun _ => False, [.list (ns.map .int)], fun d => d = .bool true, fun b q => by rw [q]; exact rd_tk h, fun _ q => q.elim, ⟨.inr ⟨a, rfl, id, rfl, script_rep h hl⟩, trivial⟩, ⟨ns, rfl, hl, rfl⟩, fun v H' d pd _ r => ?_⟩
    subst pd
    exact Rep.toBl r
  · exact absurd c (no_list hn e)
theorem law_walk {l : PySem.W.OpenLaw} {k : Nat} {q : Program} {loose : List Str} {XP : (Str → Option Value) → Heap → Prop} {YP : World → Heap → Prop} {d : DefRec} {K : Params → PySem.W.Frag}
    (hn : l.most = some 63) (hdf : d.params.defaults = []) (hr : Room k callerA) (hY : ∀ (w : World) (h : Heap), YP w h → (K w.params).In h) (hK : ∀ w : World, noList (K w.params) = true)
    (F : ∀ (w : World) (mg : Str → Option Value) (fa : Addr) (h : Heap), (K w.params).In h → h.Ns mainGlobals mg → mg d.name = some (.ref fa) →
      ∃ fd : FuncData, (∀ (s : Shared) (u : Value), BindsTo s fd ⟨[u], []⟩ [("script", u)]) ∧ ∀ base : Heap, (K w.params).In base → base.Ns mainGlobals mg → FnOk l.prog w (K w.params) mg base CX0 k fa fd ["script"] (spOfL (K w.params) [.rd] .fz lawS)) :
    PySem.W.WalkO q loose XP YP l.row.toRowW d [] (fun f vs => PySem.call f vs) :=
  L2.walk_of (n := 63) (k := k) (x := "script") (CX := fun _ => CX0) (sp := fun w => spOfL (K w.params) [.rd] .fz lawS) hn (by decide) hdf hr hY F (fun w _ a ns hl _ hS => law_sp (hK w) hl hS) fun _ _ _ _ _ z => z
end G7

set_option maxRecDepth 100000
namespace G7
open PySem PySem.Spec PyProof.Rows L2
section
variable {X : Cx}
def tupXD : List D → Option D
  | [.list xs] => some (xtD xs)
  | _ => none
variable {κ : List SK} {M Ma : List Nat} {k ka kb : RK} {e a b : Expr} {w wa wb : WE}
def LT (K : PySem.W.Frag) (x : V) (H : Hp) (T : String) : Prop := ∃ a, x = .ref a ∧ ((T = "list" ∧ ∃ xs, SqL K H a xs) ∨ (T = "tuple" ∧ ∃ o u, H a = some (.frz o (.tup u)) ∧ o.dict = none))
/-- the first place at which it stands -/
def idxD (xs : List D) (d : D) : Option D := (xs.findIdx? fun z => PyData.eqv z d).map fun (j : Nat) => PyData.int (j : Int)
def indexD : D → D → Option D
  | .list xs, d => if okD (.list xs) = true ∧ okD d = true then idxD xs d else none
  | .dict [(.none, .tuple xs)], d => if okD (.tuple xs) = true ∧ okD d = true then idxD xs d else none
  | _, _ => none
def wIdx (f : D → D → Option D) (a b : WE) : WE := fun e Q => a e fun x e1 => ((∃ xs, x = .list xs) ∨ ∃ xs, x = xtD xs) ∧ b e1 fun y e2 => ∃ z, f x y = some z ∧ Q z e2
@[simp] theorem r_idx {f : D → D → Option D} {a b : WE} {e : En} {Q : D → En → Prop} : wIdx f a b e Q = a e fun x e1 => ((∃ xs, x = .list xs) ∨ ∃ xs, x = xtD xs) ∧ b e1 fun y e2 => ∃ z, f x y = some z ∧ Q z e2 := rfl
end
end G7

set_option maxRecDepth 100000
namespace G7
open PySem PySem.Spec PyProof.Rows L2
/-- is this the key -/
def keyB (k : Key) (d : D) : Bool := match k, d with
  | .inl i, .int j => decide (j = i)
  | .inr x, .str y => decide (y = x)
  | _, _ => false
def lookD (m : List (D × D)) (k : Key) : Option D := (m.find? fun p => keyB k p.1).map (·.2)
def putDD (m : List (D × D)) (k : Key) (v : D) : List (D × D) := if (m.any fun p => keyB k p.1) = true then m.map (fun p => if keyB k p.1 = true then (p.1, v) else p) else m ++ [(kD k, v)]
def keyOf : D → Option Key
  | .int i => some (.inl i)
  | .str x => some (.inr x)
  | _ => none
/-- the marks of other dicts -/
def plainM : List (D × D) → Bool
  | (.none, _) :: _ => false
  | (.bool true, _) :: _ => false
  | _ => true
def dgetD : D → D → Option D
  | .dict m, y => if plainM m = true then (keyOf y).bind fun k => lookD m k else none
  | _, _ => none
def dinD : D → D → Option D
  | y, .dict m => if plainM m = true then (keyOf y).map fun k => .bool (lookD m k).isSome else none
  | _, _ => none
def dninD : D → D → Option D
  | y, .dict m => if plainM m = true then (keyOf y).map fun k => .bool (!(lookD m k).isSome) else none
  | _, _ => none
def wDput (i : Nat) (v ix : WE) : WS := fun W e => v e fun y e1 => (∃ m, e1[i]? = some (some (.dict m)) ∧ plainM m = true) ∧ ix e1 fun j e2 => ∃ k m, keyOf j = some k ∧ e2[i]? = some (some (.dict m)) ∧ plainM m = true ∧ m.length < lim ∧ W.nx (e2.set i (some (.dict (putDD m k y))))
@[simp] theorem r_dput {i : Nat} {v ix : WE} {W : WD} {e : En} : wDput i v ix W e = v e fun y e1 => (∃ m, e1[i]? = some (some (.dict m)) ∧ plainM m = true) ∧ ix e1 fun j e2 => ∃ k m, keyOf j = some k ∧ e2[i]? = some (some (.dict m)) ∧ plainM m = true ∧ m.length < lim ∧ W.nx (e2.set i (some (.dict (putDD m k y)))) := rfl
section
variable {X : Cx} {κ : List SK} {M Me : List Nat} {k ka kb : RK} {a b e : Expr} {w wa wb : WE} {pos : Pos}
theorem se_dnew : SE X κ M .nw (.Dict [] [] pos) (wC (.dict [])) := SE.of pe_dnewK fun σ H Q ⟨g, env, W, F, hw, post⟩ => fun p np => by
  refine post _ _ (g.add p) env _ (F.new np) (.new np) ⟨p, rfl, np, .inr rfl, fun q => F.own_ne (F.p_own q) np, ?_⟩ hw
  have := Obj1.dK (K := X.K) (H := upd H p (.dK [])) (S := (g.add p).own) (a := p) (kvs := []) (ds := []) upd_same .nil
  exact this
end
end G7

set_option maxRecDepth 100000
namespace G7
open PySem PySem.Spec PyProof.Rows L2
def rSortedPF (K : PySem.W.Frag) : List V → Hp → VK → Prop := fun vs H Q => ∃ (a : Addr) (xs : List V), vs = [V.ref a] ∧ SqL K H a xs ∧ (∀ x ∈ xs, ∃ t p, x = V.ref t ∧ SqT K H t [.int (p : Int × Int).1, .int p.2]) ∧
  ∀ k : V → Int × Int, (∀ x ∈ xs, ∀ t p, x = V.ref t → SqT K H t [.int (p : Int × Int).1, .int p.2] → k x = p) → ∀ ys p, SrtO.Srtd (ltP k) ys → SrtO.Stb (ltP k) ys xs → H p = none → Q (.ref p) (upd H p (.lst ys))
section
variable {X : Cx}
open Classical in
noncomputable def keyP (K : PySem.W.Frag) (H : Hp) (v : V) : Int × Int := if h : ∃ p t, v = V.ref t ∧ SqT K H t [.int (p : Int × Int).1, .int p.2] then Classical.choose h else (0, 0)
theorem cr_sortedPF : CallR X (.builtin "sorted") (rSortedPF X.K) := by
  intro pins s σ H vs us Q I r h
  obtain ⟨a, xs, rfl, hs, hx, q⟩ := h
  have hk : ∀ v t p, v = V.ref t → SqT X.K H t [.int (p : Int × Int).1, .int p.2] → keyP X.K H v = p := by
    intro v t p e ht
    have h : ∃ p t, v = V.ref t ∧ SqT X.K H t [.int (p : Int × Int).1, .int p.2] := ⟨p, t, e, ht⟩
    unfold keyP
    rw [dif_pos h]
    obtain ⟨t2, e2, h2⟩ := Classical.choose_spec h
    have e3 := V.ref.inj (e.symm.trans e2)
    rw [← e3] at h2
    have := I.tuple_inj h2 ht
    injection this with h1 h2
    injection h2 with h2 _
    injection h1 with h1
    injection h2 with h2
    exact Prod.ext h1 h2
  have q := q (keyP X.K H) fun x _ t p e ht => hk x t p e ht
  generalize keyP X.K H = k at hk q
  obtain ⟨its, rv, hl, hz⟩ := I.list hs
  obtain ⟨u, rfl, ru⟩ := vals1 r
  obtain rfl : u = Value.ref a := ru
  obtain ⟨e1, e2⟩ := refs_back rv fun x m => by
    obtain ⟨t, p, e, _⟩ := hx x m
    exact ⟨t, e⟩
  refine SrtO.sorted_pairsO (k := fun u => k (backV u)) hl.isList (by rw [← rv.length]; exact hz) (fun v hv => ?_) fun h' d out h1 h2 kp hd hn => ?_
  · obtain ⟨t, rfl⟩ := e2 v hv
    have hm : V.ref t ∈ xs := by rw [e1]; exact List.mem_map.mpr ⟨_, hv, rfl⟩
    obtain ⟨t', p, e, ht⟩ := hx _ hm
    cases e
    have hkt : k (backV (Value.ref t)) = p := hk _ t p rfl ht
    obtain ⟨its2, r2, ⟨o, ho, hc, n, hd⟩, _⟩ := I.tuple ht
    obtain ⟨u1, u2, rfl, ri, rj⟩ := vals2 r2
    obtain ⟨t1, rfl⟩ := ri
    obtain ⟨t2, rfl⟩ := rj
    rw [hkt]
    exact ⟨t, o, t1, t2, n, rfl, ho, hc, hd⟩
  · have h3 : ∀ u ∈ out, ∃ a, u = Value.ref a := fun u hu => e2 u (h2.perm.mem_iff.mp hu)
    obtain ⟨n, hn⟩ := hn
    have hb : SrtO.Stb (ltP k) (out.map backV) xs := by
      rw [e1]
      exact SrtO.Stb.map (ltP_swo k) backV h2
    refine ⟨.ref d, upd H d (.lst (out.map backV)), I.laid (t' := s.toks) kp hd ⟨?_, out, n, vals_back h3, hn⟩, rfl, q _ d (SrtO.srtd_map h1) hb (I.hok.fresh hd)⟩
    rw [hb.len]
    exact hz
def rSortedA (K : PySem.W.Frag) : List V → Hp → VK → Prop := fun vs H Q => rSortedI K vs H Q ∨ rSortedPF K vs H Q
theorem cr_sortedA : CallR X (.builtin "sorted") (rSortedA X.K) := by
  intro pins s σ H vs us Q I r h
  rcases h with h | h
  · exact cr_sortedI pins s σ H vs us Q I r h
  · exact cr_sortedPF pins s σ H vs us Q I r h
end
def dP (p : Int × Int) : D := .tuple [.int p.1, .int p.2]
def pairsD : List D → Option (List (Int × Int))
  | [] => some []
  | .tuple [.int i, .int j] :: r => (pairsD r).map ((i, j) :: ·)
  | _ => none
def leP (p q : Int × Int) : Prop := p.1 < q.1 ∨ (p.1 = q.1 ∧ p.2 ≤ q.2)
instance (p q : Int × Int) : Decidable (leP p q) := by unfold leP; exact inferInstance
def insP (x : Int × Int) : List (Int × Int) → List (Int × Int)
  | [] => [x]
  | y :: l => if leP x y then x :: y :: l else y :: insP x l
def psort : List (Int × Int) → List (Int × Int)
  | [] => []
  | x :: l => insP x (psort l)
theorem insP_perm (x : Int × Int) : ∀ l : List (Int × Int), (insP x l).Perm (x :: l)
  | [] => List.Perm.refl _
  | y :: l => by
    unfold insP
    split
    · exact List.Perm.refl _
    · exact ((insP_perm x l).cons y).trans (List.Perm.swap x y l)
theorem psort_perm : ∀ l : List (Int × Int), (psort l).Perm l
  | [] => List.Perm.refl _
  | x :: l => (insP_perm x _).trans ((psort_perm l).cons x)
theorem leP_total {p q : Int × Int} (h : ¬ leP p q) : leP q p := by unfold leP at *; omega
theorem leP_trans {p q r : Int × Int} (h : leP p q) (h2 : leP q r) : leP p r := by unfold leP at *; omega
theorem leP_anti {p q : Int × Int} (h : leP p q) (h2 : leP q p) : p = q := by unfold leP at *; apply Prod.ext <;> omega
theorem insP_sorted (x : Int × Int) : ∀ l : List (Int × Int), l.Pairwise leP → (insP x l).Pairwise leP
  | [], _ => List.pairwise_singleton _ _
  | y :: l, h => by
    have h' := List.pairwise_cons.mp h
    unfold insP
    split
    · rename_i hxy
      refine List.pairwise_cons.mpr ⟨fun z hz => ?_, h⟩
      rcases List.mem_cons.mp hz with e | hz
      · subst e; exact hxy
      · exact leP_trans hxy (h'.1 z hz)
    · rename_i hxy
      refine List.pairwise_cons.mpr ⟨fun z hz => ?_, insP_sorted x l h'.2⟩
      rcases List.mem_cons.mp ((insP_perm x l).mem_iff.mp hz) with e | hz
      · subst e; exact leP_total hxy
      · exact h'.1 z hz
theorem psort_sorted : ∀ l : List (Int × Int), (psort l).Pairwise leP
  | [] => .nil
  | x :: l => insP_sorted x _ (psort_sorted l)
theorem psort_one : ∀ {l m : List (Int × Int)}, l.Perm m → l.Pairwise leP → m.Pairwise leP → l = m
  | [], m, p, _, _ => (p.symm.eq_nil).symm
  | x :: l, [], p, _, _ => absurd p.eq_nil (by simp)
  | x :: l, y :: m, p, hl, hm => by
    have hl' := List.pairwise_cons.mp hl
    have hm' := List.pairwise_cons.mp hm
    have e : x = y := by
      have h1 : x ∈ y :: m := p.mem_iff.mp (by simp)
      have h2 : y ∈ x :: l := p.mem_iff.mpr (by simp)
      rcases List.mem_cons.mp h1 with e | h1
      · exact e
      · rcases List.mem_cons.mp h2 with e | h2
        · exact e.symm
        · exact leP_anti (hl'.1 y h2) (hm'.1 x h1)
    subst e
    rw [psort_one (p.cons_inv) hl'.2 hm'.2]
def sortedAD : List D → Option D
  | [.list xs] => match intsD xs with
    | some ns => some (.list ((isort ns).map .int))
    | none => (pairsD xs).map fun ps => .list ((psort ps).map dP)
  | _ => none
theorem pairsD_map : ∀ {xs : List D} {ps : List (Int × Int)}, pairsD xs = some ps → xs = ps.map dP
  | [], _, h => by simp [pairsD] at h; subst h; rfl
  | x :: xs, ps, h => by
    unfold pairsD at h
    split at h
    · rename_i e; cases e
    · rename_i i j r e
      injection e with e1 e2
      subst e1 e2
      rw [Option.map_eq_some_iff] at h
      obtain ⟨qs, hq, rfl⟩ := h
      rw [pairsD_map hq]; rfl
    · cases h
section
variable {K : PySem.W.Frag} {H : Hp} {S : Addr → Prop}
theorem pairs_keys {k : V → Int × Int} : ∀ {xs : List V} {ps : List (Int × Int)}, RepAll K H S xs (ps.map dP) → (∀ x ∈ xs, ∀ t p, x = V.ref t → SqT K H t [.int (p : Int × Int).1, .int p.2] → k x = p) → xs.map k = ps ∧ (∀ x ∈ xs, Rep K H S x (dP (k x))) ∧ ∀ x ∈ xs, ∃ t p, x = V.ref t ∧ SqT K H t [.int (p : Int × Int).1, .int p.2]
  | [], [], _, _ => ⟨rfl, by simp, by simp⟩
  | [], _ :: _, h, _ => by cases h
  | _ :: _, [], h, _ => by cases h
  | x :: xs, p :: ps, h, hk => by
    cases h with
    | cons r t =>
      obtain ⟨h1, h2, h3⟩ := pairs_keys t fun y hy => hk y (by simp [hy])
      obtain ⟨a, ys, rfl, ra, _, al⟩ := Rep.toTup r
      have e : ys = [.int p.1, .int p.2] := by
        cases al with
        | cons r1 t1 => cases t1 with
          | cons r2 t2 => cases t2; rw [r1.toInt, r2.toInt]
      subst e
      have hx := hk _ (by simp) a p rfl (sqT_of ra)
      refine ⟨by simp [hx, h1], fun y hy => ?_, fun y hy => ?_⟩
      · rcases List.mem_cons.mp hy with e | hy
        · subst e; rw [hx]; exact r
        · exact h2 y hy
      · rcases List.mem_cons.mp hy with e | hy
        · subst e; exact ⟨a, p, rfl, sqT_of ra⟩
        · exact h3 y hy
theorem pairs_refs : ∀ {xs : List V} {ps : List (Int × Int)}, RepAll K H S xs (ps.map dP) → ∀ x ∈ xs, ∃ t p, x = V.ref t ∧ SqT K H t [.int (p : Int × Int).1, .int p.2]
  | [], [], _ => by simp
  | [], _ :: _, h => by cases h
  | _ :: _, [], h => by cases h
  | x :: xs, p :: ps, h => by
    cases h with
    | cons r t =>
      obtain ⟨a, ys, rfl, ra, _, al⟩ := Rep.toTup r
      have e : ys = [.int p.1, .int p.2] := by
        cases al with
        | cons r1 t1 => cases t1 with
          | cons r2 t2 => cases t2; rw [r1.toInt, r2.toInt]
      subst e
      intro y hy
      rcases List.mem_cons.mp hy with e | hy
      · subst e; exact ⟨a, p, rfl, sqT_of ra⟩
      · exact pairs_refs t y hy
theorem repAll_of {k : V → Int × Int} : ∀ {ys : List V}, (∀ x ∈ ys, Rep K H S x (dP (k x))) → RepAll K H S ys ((ys.map k).map dP)
  | [], _ => .nil
  | y :: ys, h => .cons (h y (by simp)) (repAll_of fun x hx => h x (by simp [hx]))
end
theorem bd_sortedA {K : PySem.W.Frag} : BlD K (rSortedA K) sortedAD .nw := by
  intro κ g env σ H vs ds dz Q F r e h
  match ds, e with
  | [.list xs], e =>
    simp only [sortedAD] at e
    split at e
    · rename_i ns e2
      exact .inl (bd_sorted κ g env σ H vs [.list xs] dz Q F r (by simp only [sortedD, e2, Option.map_some]; exact e) h)
    · rename_i e2
      right
      rw [Option.map_eq_some_iff] at e
      obtain ⟨ps, e3, rfl⟩ := e
      obtain ⟨v, rfl, rx⟩ := rda1 r
      obtain ⟨a, ys, rfl, ra, za, la⟩ := rx.toLst
      have := pairsD_map e3
      subst this
      refine ⟨a, ys, rfl, .inl ra, ?_, fun k hk zs p hs hb np => ?_⟩
      · exact pairs_refs la
      · obtain ⟨h1, h2, _⟩ := pairs_keys la hk
        have rz : RepAll K H g.own zs ((zs.map k).map dP) := repAll_of fun x hx => h2 x (hb.perm.mem_iff.mp hx)
        have e : zs.map k = psort ps := by
          refine psort_one ?_ ?_ (psort_sorted ps)
          · refine (hb.perm.map k).trans ?_
            rw [h1]; exact (psort_perm ps).symm
          · rw [List.pairwise_map]
            refine hs.imp fun {x y} hxy => ?_
            have := SrtO.lexB_no.mp hxy
            unfold leP
            omega
        rw [e] at rz
        exact ok_lstN F rz (by rw [hb.len]; exact za) np h
section
variable {X : Cx}
def maxAD : List D → Option D
  | [.list xs] => (intsD xs).bind fun ns => (maxI ns).map .int
  | [.tuple xs] => (intsD xs).bind fun ns => (maxI ns).map .int
  | [.dict [(.none, .tuple xs)]] => (intsD xs).bind fun ns => (maxI ns).map .int
  | _ => none
end
end G7

set_option maxRecDepth 100000
namespace G7
open PySem PySem.Spec PyProof.Rows L2
section
variable {prog : Program} {w : World} {A : Around} {E : Value → Shared → Prop} {s : Shared} {d r : Addr} {o : Obj} {es : Array DictEntry} {ep : Nat}
theorem walks_raw (hh : A.handled = none) (I d : Addr) (hne : d ≠ I) (hdat : o.data = .dict es ep) :
    Walks prog w A I [I, d] [I] es.size (fun i v => ∃ en, es[i]? = some en ∧ v = en.key) (fun i h => h.IsKeyIter I d i es.size ep ∧ h.get? d = some o) where
  sub := fun b hb => by simp at hb; simp [hb]
  frame := fun _ _ _ st hk => ⟨st.1.at fun o e => hk I (by simp) o e, hk d (by simp) _ st.2⟩
  item := fun i s Q E hi st hQ => by
    obtain ⟨en, hen⟩ : ∃ en, es[i]? = some en := ⟨es[i], by simp [hi]⟩
    refine next_key_item st.1 st.2 hdat rfl hen fun h' hit' sb => ?_
    exact hQ en.key h' s.toks ⟨en, hen, rfl⟩ ⟨hit', (sb.2 d hne).trans st.2⟩ fun b o hb e => (sb.2 b (fun h => hb (by simp [h]))).trans e
  done := fun s Q E st hQ => next_key_end hh st.1 st.2 hdat rfl (Nat.le_refl _) fun h' he' => hQ h' s.toks fun b o hb e => he' b o (fun h => hb (by simp [h])) e
  self := fun _ _ _ _ st hQ => wpAny_pyIter_keyiter st.1 hQ
theorem kdr_dict (lo : (d == sysModules) = false) (hx : o.ExactDict) (hdat : o.data = .dict es ep) :
    PySem.W.KdlSrc prog w "dict" d d es.size (fun i v => ∃ en, es[i]? = some en ∧ v = en.key) (fun h => h.get? d = some o) where
  type := fun _ hm => ⟨o, hm, hx.1⟩
  there := fun _ hm => ⟨Heap.lt_size hm, Heap.lt_size hm⟩
  keep := fun _ _ hm hk => hk d (.inl rfl) o hm
  notList := by decide
  notTuple := by decide
  hint := fun _ _ _ _ hm hq => PySem.W.kdl_hint_dict ⟨o, hm, hx.1⟩ hq
  iter := fun _ _ hh hm => ⟨_, _, (fun _ _ hq => iter_keys lo hm hx hdat hq), walks_raw hh _ d (Nat.ne_of_lt (Heap.lt_size hm)) hdat, ⟨⟨_, Heap.get?_push_size _ rfl, rfl, rfl⟩, Heap.get?_push_of_some _ hm⟩⟩
theorem iter_keysV {v : Addr} {Q : Value → Shared → Prop} (hv : PySem.W.KdlKeysView s.heap v d) (ho : s.heap.get? d = some o) (hdat : o.data = .dict es ep)
    (hQ : Q (.ref s.heap.objs.size) { s with heap := s.heap.push { cls := .type "dict_keyiterator", data := .fields #[.ref d, .int 0 0, .int es.size 0, .int ep 0] } }) :
    wpAny (model prog w) A (pyIter (.ref v)) Q E s := by
  obtain ⟨ov, hov, hcv, hdv⟩ := id hv
  refine wpAny_pyIter_slot hv.typeIs PySem.W.kdl_slot_keys_iter (wpAny_call_entry PySem.W.kdl_slot_keys_iter hv.typeIs PySem.W.kdl_entry_keys_iter ?_ (PySem.W.kdl_args_keys_iter _))
  unfold Builtin.«dict_keys.__iter__»
  refine wpAny_bind (wpAny_pure ?_)
  refine wpAny_bind ?_
  unfold Builtin.Dict_items.dictOf
  refine wpAny_bind (wpAny_field hov hdv (x := .ref d) rfl (wpAny_pure ?_))
  refine wpAny_bind ?_
  unfold Builtin.Dict_items.newIterator
  refine wpAny_bind (wpAny_dictEntries ho hdat ?_)
  refine wpAny_bind (wpAny_dictEpoch ho hdat ?_)
  have hown : Builtin.Dict_items.ownsTuple "dict_keyiterator" = false := by decide
  simp only [hown, Bool.false_eq_true, if_false]
  refine wpAny_newObj_type (wpAny_pure ⟨_, rfl, "dict_keyiterator", _, ⟨_, Heap.get?_push_size _ rfl, rfl⟩, PySem.F.slot_dict_keyiterator_next.lookup, ?_⟩)
  simpa [rawInt] using hQ
theorem kdr_keys (hx : o.ExactDict) (hdat : o.data = .dict es ep) :
    PySem.W.KdlSrc prog w "dict_keys" r d es.size (fun i v => ∃ en, es[i]? = some en ∧ v = en.key) (fun h => PySem.W.KdlKeysView h r d ∧ h.get? d = some o) where
  type := fun _ hm => hm.1.typeIs
  there := fun _ hm => ⟨let ⟨_, ho, _⟩ := hm.1; Heap.lt_size ho, Heap.lt_size hm.2⟩
  keep := fun _ _ hm hk => ⟨let ⟨o, ho, x⟩ := hm.1; ⟨o, hk r (.inl rfl) o ho, x⟩, hk d (.inr rfl) o hm.2⟩
  notList := by decide
  notTuple := by decide
  hint := fun _ _ _ _ hm hq => PySem.W.kdl_hint_keys hm.1.typeIs hq
  iter := fun _ _ hh hm => ⟨_, _, (fun _ _ hq => iter_keysV hm.1 hm.2 hdat hq), walks_raw hh _ d (Nat.ne_of_lt (Heap.lt_size hm.2)) hdat, ⟨⟨_, Heap.get?_push_size _ rfl, rfl, rfl⟩, Heap.get?_push_of_some _ hm.2⟩⟩
end
/-- the view d.keys() at p -/
def keysO (p d : Addr) : HO := .ext fun h => PySem.W.KdlKeysView h p d
section
variable {X : Cx}
/-- a dict with tuple keys, or the view of its keys -/
def SrcT (H : Hp) (p : Addr) (kvs : List (List L2.Key × V)) : Prop := H p = some (.dT kvs) ∨ ∃ a, H p = some (keysO p a) ∧ H a = some (.dT kvs)
theorem kt_addrs {H : Hp} : ∀ {kvs : List (List L2.Key × V)} {xs : List (List L2.Key × Addr × Value)}, KT H kvs xs → Paired (fun kv q => H q = some (.tup (kv.1.map kV))) kvs (xs.map (·.2.1))
  | [], [], _ => .nil
  | _ :: _, _ :: _, .cons h t => .cons h.2.1 (kt_addrs t)
/-- its keys' addresses -/
theorem SrcT.at' {P : Program} {w : World} {H : Hp} {h : Heap} {p : Addr} {kvs : List (List L2.Key × V)} (g : SrcT H p kvs) (ok : HOk P w H h) : ∃ (T : String) (d : Addr) (n : Nat) (Pv : Nat → Value → Prop) (OK : Heap → Prop) (qs : List Addr),
    PySem.W.KdlSrc P w T p d n Pv OK ∧ OK h ∧ n = qs.length ∧ n ≤ sizeLine ∧ (∀ i v, Pv i v → ∃ q, qs[i]? = some q ∧ v = .ref q) ∧ Paired (fun kv q => H q = some (.tup (kv.1.map kV))) kvs qs := by
  have core : ∀ {d : Addr}, H d = some (.dT kvs) → ∃ (o : Obj) (es : Array DictEntry) (ep : Nat) (qs : List Addr), kvs.length ≤ sizeLine ∧ (d == sysModules) = false ∧ h.get? d = some o ∧ o.ExactDict ∧ o.data = .dict es ep ∧ es.size = qs.length ∧ es.size ≤ sizeLine ∧
      (∀ (i : Nat) en, es[i]? = some en → ∃ q, qs[i]? = some q ∧ en.key = .ref q) ∧ Paired (fun kv q => H q = some (.tup (kv.1.map kV))) kvs qs := by
    intro d hd
    obtain ⟨z, hs, xs, rel, o, es, ep, ho, hx, hdat, he, _⟩ := dt_of ok hd
    refine ⟨o, es, ep, xs.map (·.2.1), z, hs, ho, hx, hdat, ?_, ?_, fun i en hen => ?_, ?_⟩
    · rw [size_of_entries he, List.length_map]
    · have l1 : kvs.length = xs.length := Paired.length rel
      rw [size_of_entries he, ← l1]; exact z
    · rw [entry_at he i] at hen
      obtain ⟨x, hx1, rfl⟩ := Option.map_eq_some_iff.mp hen
      exact ⟨x.2.1, by rw [List.getElem?_map, hx1]; rfl, rfl⟩
    · exact kt_addrs rel
  rcases g with g | ⟨a, g1, g2⟩
  · obtain ⟨o, es, ep, qs, z, hs, ho, hx, hdat, e1, e2, e3, e4⟩ := core g
    exact ⟨_, _, _, _, _, qs, kdr_dict hs hx hdat, ho, e1, e2, fun i v ⟨en, h1, h2⟩ => by obtain ⟨q, h3, h4⟩ := e3 i en h1; exact ⟨q, h3, h2.trans h4⟩, e4⟩
  · obtain ⟨o, es, ep, qs, z, hs, ho, hx, hdat, e1, e2, e3, e4⟩ := core g2
    have view : PySem.W.KdlKeysView h p a := (show ObjOk P w H h p (keysO p a) from ok p _ g1).1
    exact ⟨_, _, _, _, _, qs, kdr_keys hx hdat, ⟨view, ho⟩, e1, e2, fun i v ⟨en, h1, h2⟩ => by obtain ⟨q, h3, h4⟩ := e3 i en h1; exact ⟨q, h3, h2.trans h4⟩, e4⟩
end
end G7

set_option maxRecDepth 100000
namespace G7
open PySem PySem.Spec PyProof.Rows L2
end G7

set_option maxRecDepth 100000
namespace G7
open PySem PySem.Spec PyProof.Rows L2
def keysOf : List D → Option (List Key)
  | [] => some []
  | d :: r => (keyOf d).bind fun k => (keysOf r).map (k :: ·)
def keyT : D → Option (List Key)
  | .tuple ds => keysOf ds
  | _ => none
/-- a key that is looked up or laid -/
def keyTR0 : D → Option (List Key)
  | .tuple [] => if tupX = true then some [] else none
  | d => keyT d
def keyTR : D → Option (List Key)
  | .dict [(.bool true, .tuple ds)] => keysOf ds
  | d => (keyTR0 d).bind fun k => if keyLen k.length = true then some k else none
def keyTB (k : List Key) (d : D) : Bool := decide (keyT d = some k)
/-- a dict with tuple keys -/
abbrev dTD (m : List (D × D)) : D := .dict ((.none, .none) :: m)
def lookTD (m : List (D × D)) (k : List Key) : Option D := (m.find? fun p => keyTB k p.1).map (·.2)
def putTD (m : List (D × D)) (k : List Key) (v : D) : List (D × D) := if (m.any fun p => keyTB k p.1) = true then m.map (fun p => if keyTB k p.1 = true then (p.1, v) else p) else m ++ [(tD k, v)]
def dinTD : D → D → Option D
  | y, .dict ((.none, .none) :: m) => (keyTR y).map fun k => .bool (lookTD m k).isSome
  | _, _ => none
def dninTD : D → D → Option D
  | y, .dict ((.none, .none) :: m) => (keyTR y).map fun k => .bool (!(lookTD m k).isSome)
  | _, _ => none
def wDputT (i : Nat) (v ix : WE) : WS := fun W e => v e fun y e1 => (∃ m, e1[i]? = some (some (dTD m))) ∧ ix e1 fun j e2 => ∃ k m, keyTR j = some k ∧ e2[i]? = some (some (dTD m)) ∧ m.length < lim ∧ W.nx (e2.set i (some (dTD (putTD m k y))))
section
variable {X : Cx} {κ : List SK} {M Me : List Nat} {k ka kb : RK} {a b e : Expr} {w wa wb : WE} {pos : Pos}
def sortTD : D → Option D
  | .dict ((.none, .none) :: m) => (pairsD (m.map (·.1))).map fun ps => .list ((psort ps).map dP)
  | _ => none
def sortTLD : List D → Option D
  | [d] => sortTD d
  | _ => none
/-- sorted(d.keys()) -/
def wKeysT (i : Nat) : WE := fun e Q => ∃ m z, e[i]? = some (some (dTD m)) ∧ sortTD (dTD m) = some z ∧ Q z e
def tupRevD : D → Option D
  | .list xs => some (.tuple xs.reverse)
  | _ => none
def removeF (xs ys : List D) : Option (D × List D) := match ys with
  | [.int k] => (intsD xs).bind fun ns => if k ∈ ns then some (.none, (ns.erase k).map .int) else none
  | _ => none
def lenTD : List D → Option D
  | [.dict ((.none, .none) :: m)] => some (.int m.length)
  | _ => none
end
end G7

set_option maxRecDepth 100000
namespace G7
open PySem PySem.Spec PyProof.Rows L2
end G7

set_option maxRecDepth 100000
namespace G7
open PySem PySem.Spec PyProof.Rows L2
open Sem (wp)
set_option maxHeartbeats 1000000 in
theorem meets_enumerate_new1 {v : Value} {o : Obj} {H : Heap → Prop} (B : Begins v o H) :
    Meets (Builtin.«enumerate.__new__» ⟨[.type "enumerate", v], []⟩) (fun _ R s => H s.heap ∧
      R (.ok (.ret (.ref (s.heap.push o).objs.size))) { s with heap := (s.heap.push o).push { cls := .type "enumerate", data := .fields #[.none, .bool false, .ref s.heap.objs.size, rawInt 0, .none, .none] } }) :=
  .of_wp fun prog w A R s h => by
    obtain ⟨hp, g, d, tk, os⟩ := s; obtain ⟨h1, h⟩ := h
    have hsub := sub_enumerate
    have q1 : ∀ {A' : Around} {E : Value → Shared → Prop} {Q : Value → Shared → Prop}, Q (.ref hp.objs.size) ⟨hp.push o, g, d, tk, os⟩ → wpAny (model prog w) A' (pyIter v) Q E ⟨hp, g, d, tk, os⟩ :=
      fun q => B.iter prog w _ _ ⟨hp, g, d, tk, os⟩ _ h1 q
    wp_walk using q1
    refine wpAny_stack_any fun st => wpAny_pure ?_
    split
    · rename_i c _ _ _ _ _
      cases (c == Value.type "enumerate")
      · wp_walk using q1
        exact ⟨_, rfl, h⟩
      · wp_walk using q1
        exact ⟨_, rfl, h⟩
    · wp_walk using q1
      exact ⟨_, rfl, h⟩
section
variable {prog : Program} {w : World} {A : Around} {E : Value → Shared → Prop} {s : Shared}
theorem enum_begins1 {v : Value} {o : Obj} {H : Heap → Prop} {Q : Value → Shared → Prop} (B : Begins v o H) (h1 : H s.heap)
    (h : ∀ h', IsEnum h' (s.heap.objs.size + 1) s.heap.objs.size 0 .none → h'.get? s.heap.objs.size = some o → h'.objs.size = s.heap.objs.size + 2 →
      (∀ b o, s.heap.get? b = some o → h'.get? b = some o) → Q (.ref (s.heap.objs.size + 1)) { s with heap := h' }) :
    wpAny (model prog w) A (call (.type "enumerate") [v]) Q E s := by
  refine callType_new F.called_enumerate (by decide) (F.typeCall_enumerate_1 _) (F.newCall_enumerate_1 _) (fun obj => F.args_object_init_2 obj _) F.entry_enumerate_new
    (meets_enumerate_new1 B) ⟨h1, ?_⟩
  have hz : (s.heap.push o).objs.size = s.heap.objs.size + 1 := Heap.size_push ..
  show _ ∧ _
  rw [hz]
  have he : IsEnum ((s.heap.push o).push { cls := .type "enumerate", data := .fields #[.none, .bool false, .ref s.heap.objs.size, rawInt 0, .none, .none] }) (s.heap.objs.size + 1) s.heap.objs.size 0 .none := by
    have := Heap.get?_push_size (s.heap.push o) (o := { cls := .type "enumerate", data := .fields #[.none, .bool false, .ref s.heap.objs.size, rawInt 0, .none, .none] }) rfl
    rw [hz] at this; exact this
  refine ⟨⟨_, he, rfl⟩, h _ he (Heap.get?_push_of_some _ (Heap.get?_push_size _ B.free)) (by rw [Heap.size_push, hz]) fun b o x => Heap.get?_push_of_some _ (Heap.get?_push_of_some _ x)⟩
end
theorem enum_endT {prog : Program} {w : World} {A : Around} {E : Value → Shared → Prop} {s : Shared} {e it l : Addr} {i : Nat} {items : Array Value} {old : Value} {Q : Option Value → Shared → Prop} (hh : A.handled = none)
    (he : IsEnum s.heap e it i old) (hit : s.heap.IsTupleIter it l i) (hl : s.heap.IsTuple l items) (hx : items[i]? = none)
    (hQ : ∀ h', Heap.ExtBut it s.heap h' → Q none { s with heap := h' }) : wpAny (model prog w) A (pyNext (.ref e)) Q E s := by
  have hT : s.TypeIs (.ref e) "enumerate" := ⟨_, he, rfl⟩
  unfold pyNext
  refine wpAny_bind (wpAny_attempt (wpAny_callSpecial?_slot (name := Str.ofString "__next__") hT F.slot_enumerate_next
    (wpAny_call_entry F.slot_enumerate_next hT F.entry_enumerate_next ?_ (F.args_enumerate_next_1 _))))
  show wpAny _ _ (field (.ref e) 2 >>= _) _ _ _
  refine wpAny_bind (wpAny_field he rfl (x := .ref it) rfl ?_)
  refine wpAny_bind (RZ.nextOf_tuple_end hh hit hl hx fun h' x he' hx' => ?_)
  obtain ⟨o, ho, hc⟩ := hx'
  refine wpAny_bind (wpAny_isInstance (T := "StopIteration") (b := true) ⟨o, ho, hc⟩ isSubtype_stop ?_)
  exact wpAny_pure (hQ _ he')
end G7

set_option maxRecDepth 100000
namespace G7
open PySem PySem.Spec PyProof.Rows L2
def wPar (i j : Nat) (a : WA) : WS := fun W e => a e fun ds e1 => ∃ x y, ds = [x, y] ∧ W.nx ((e1.set i (some x)).set j (some y))
theorem i_par {i j : Nat} {a : WA} {nx bk ct : En → Prop} {rt : D → En → Prop} {e : En} (k : a e fun ds e1 => ∃ x y, ds = [x, y] ∧ nx ((e1.set i (some x)).set j (some y))) : wPar i j a ⟨nx, rt, bk, ct⟩ e := k

end G7

set_option maxRecDepth 100000
namespace G7
open PySem PySem.Spec PyProof.Rows L2
/-- the slot's thing as kept -/
def toF : Nat → En → En
  | 0, some d :: e => some (.tuple [d]) :: e
  | n + 1, x :: e => x :: toF n e
  | _, e => e
def NT (d : D) : Prop := ∀ d', d ≠ .tuple [d']
theorem nt_l {xs : List D} : NT (.list xs) := fun _ h => by cases h
theorem nt_d {xs : List (D × D)} : NT (.dict xs) := fun _ h => by cases h
def ownE (i : Nat) (e : En) : Prop := ∀ d, e[i]? = some (some d) → NT d
/-- s, the slot being own -/
def wAsO (i : Nat) (s : WS) : WS := fun W e => ownE i e ∧ s W e
def WD.wrap (W : WD) (i : Nat) : WD := ⟨fun e => W.nx (toF i e), fun d e => W.rt d (toF i e), fun e => W.bk (toF i e), fun e => W.ct (toF i e)⟩
/-- s, the slot being told for good -/
def wAsV (i : Nat) (s : WS) : WS := fun W e => ∃ d, e[i]? = some (some (.tuple [d])) ∧ s (W.wrap i) (e.set i (some d))
/-- the slot's thing is nobody's own from here on -/
def wFrz (i : Nat) (s : WS) : WS := fun W e => ∃ d, e[i]? = some (some d) ∧ NT d ∧ s W (e.set i (some (.tuple [d])))

section
variable {K : PySem.W.Frag} {κ : List SK} {g g' : Rg} {env env' : En} {σ : St} {H H' : Hp} {M : List Nat} {i j : Nat} {v : V} {d : D} {k : RK} {x : SK}
theorem kind_lt (hk : kindOf κ i = .f) : i < κ.length := by
  apply Classical.byContradiction
  intro c
  unfold kindOf at hk
  rw [List.getElem?_eq_none (by omega)] at hk
  cases hk
theorem kind_ne (h : j ≠ i) : kindOf (κ.set i x) j = kindOf κ j := by
  unfold kindOf
  rw [List.getElem?_set_ne fun c => h c.symm]
theorem SStep.kind (h : SStep (κ.set i x) M g g' H H') (hk : kindOf κ i = .f) : SStep κ M g g' H H' := by
  refine ⟨h.pu, h.pd, h.up, h.dn, h.al, h.I, fun j q => h.qs j ?_, h.keep, h.th, h.pool⟩
  rw [kind_ne fun c => by rw [c, hk] at q; cases q]
  exact q
theorem ResR.kind (r : ResR K (κ.set i x) k g H H' v d) (hk : kindOf κ i = .f) (hx : x = .o ∨ x = .v) : ResR K κ k g H H' v d := by
  have hb : ∀ a, baseO κ g a → baseO (κ.set i x) g a := fun a q => q.imp id fun ⟨j, hj, e⟩ => ⟨j, by rw [kind_ne fun c => by rw [c, hk] at hj; cases hj]; exact hj, e⟩
  have less : ∀ {v d}, Rep K H' (baseO (κ.set i x) g) v d → Rep K H' (baseO κ g) v d := fun r => r.keep (fun _ _ _ q => q) fun a q => .inl (hb a q)
  cases k with
  | nw =>
    obtain ⟨p, rfl, n, r⟩ := r
    refine ⟨p, rfl, n.imp id fun ⟨j, hj, e⟩ => ⟨j, ?_, e⟩, r.keep (fun _ q => q) (fun _ _ _ q => q) fun a q => .inl (q.imp (hb a) id)⟩
    by_cases c : j = i
    · subst c; exact .inr hk
    · rw [kind_ne c] at hj; exact hj
  | fz => exact less r
  | rd => exact less r
  | ow i => exact less r
  | pl => exact less r
  | np => exact less r
/-- the frame with the slot's thing let go -/
theorem Frm.frz (F : Frm K κ g env σ H) (hk : kindOf κ i = .f) (e0 : env[i]? = some (some d)) (nt : NT d) : ∃ g', Frm K κ g' (env.set i (some (.tuple [d]))) σ H ∧ SStep κ M g g' H H := by
  obtain ⟨v0, ev0, s0⟩ := F.ev i d e0
  rw [hk] at s0
  rcases s0 with ⟨p, rfl, ep, r⟩ | ⟨d', e', _⟩
  · have own : ∀ a, Rg.own ⟨g.O, g.P, g.I, fun j => if j = i then none else g.al j⟩ a → g.own a := fun a q => by
      rcases q with q | ⟨j, q⟩
      · exact .inl q
      · simp only at q
        split at q
        · cases q
        · exact .inr ⟨j, q⟩
    have np : ¬ Rg.own ⟨g.O, g.P, g.I, fun j => if j = i then none else g.al j⟩ p := fun q => by
      rcases q with q | ⟨j, q⟩
      · exact (F.alo i p ep).1 q
      · simp only at q
        split at q
        · cases q
        · next c => exact c (F.inj j i p q ep)
    refine ⟨⟨g.O, g.P, g.I, fun j => if j = i then none else g.al j⟩, ⟨by simp [F.ln], F.sl, fun j d' e => ?_, fun j j' a e e' => ?_, fun j a e => ?_, F.ot', F.il, F.pl⟩, ⟨fun _ q => q, fun _ q => .inl q, fun _ q => q, fun _ q => .inl q, fun j a e => ?_, rfl, fun j q => ?_, fun _ _ q _ _ _ => q, fun _ q => q, fun b q => (F.pl b q).2⟩⟩
    · by_cases hj : j = i
      · subst hj
        rw [List.getElem?_set_self (by rw [F.ln]; exact kind_lt hk)] at e
        cases e
        refine ⟨_, ev0, ?_⟩
        rw [hk]
        exact .inr ⟨d, rfl, (r.keep (fun _ q => q) (fun _ _ _ q => q) fun a q => .inl (own a q)).rep np⟩
      · rw [List.getElem?_set_ne fun c => hj c.symm] at e
        obtain ⟨v', e1, s'⟩ := F.ev j d' e
        refine ⟨v', e1, ?_⟩
        cases hkj : kindOf κ j <;> rw [hkj] at s' <;> unfold SlotK at s' ⊢ <;> simp only at s' ⊢
        · exact s'
        · exact Rep.keep (fun _ _ _ q => q) (fun a q => .inl (own a q)) s'
        · rcases s' with s' | ⟨a, rfl, np, na, s'⟩
          · exact .inl (Rep.keep (fun _ _ _ q => q) (fun a q => .inl (own a q)) s')
          · exact .inr ⟨a, rfl, np, na, s'.keep (fun _ q => q) (fun _ _ _ q => q) fun a q => .inl (own a q)⟩
        · obtain ⟨a, rfl, ea, s'⟩ := s'
          exact ⟨a, rfl, by simp [hj, ea], s'.keep (fun _ q => q) (fun _ _ _ q => q) fun a q => .inl (own a q)⟩
        · obtain ⟨a, rfl, ea, s'⟩ := s'
          exact ⟨a, rfl, by simp [hj, ea], s'.keep (fun _ q => q) (fun _ _ _ q => q) fun a q => .inl (own a q)⟩
        · exact s'
        · rcases s' with ⟨a, rfl, ea, s'⟩ | ⟨d', e', s'⟩
          · exact .inl ⟨a, rfl, by simp [hj, ea], s'.keep (fun _ q => q) (fun _ _ _ q => q) fun a q => .inl (own a q)⟩
          · exact .inr ⟨d', e', Rep.keep (fun _ _ _ q => q) (fun a q => .inl (own a q)) s'⟩
    · simp only at e e'
      split at e
      · cases e
      · split at e'
        · cases e'
        · exact F.inj j j' a e e'
    · simp only at e
      split at e
      · cases e
      · exact F.alo' j a e
    · simp only at e
      split at e
      · cases e
      · exact .inl e
    · have : j ≠ i := fun c => by rw [c, hk] at q; cases q
      simp [this]
  · exact absurd e' (nt d')
end
end G7

set_option maxRecDepth 100000
namespace G7
open PySem PySem.Spec PyProof.Rows L2
def strD : List D → Option D
  | [.int i] => if i.natAbs.log2 < 1920 then some (.str (toString i)) else none
  | _ => none
section
variable {K : PySem.W.Frag}
theorem bd_str : BlD K (fun xs H Q => ∃ i : Int, xs = [.int i] ∧ i.natAbs.log2 < 1920 ∧ Q (.str (toString i)) H) strD .fz := by
  intro κ g env σ H vs ds dz Q F r e h
  match ds, e with
  | [.int i], e =>
    by_cases hc : i.natAbs.log2 < 1920
    · have e : some (PyData.str (toString i)) = some dz := by rw [← e]; exact (if_pos hc).symm
      cases e
      obtain ⟨v, rfl, rx⟩ := rda1 r
      rw [rx.toInt]
      exact ⟨i, rfl, hc, ok_same F (.str _) h⟩
    · have e : none = some dz := by rw [← e]; exact (if_neg hc).symm
      cases e
end
end G7

set_option maxRecDepth 100000
namespace G7
open PySem PySem.Spec PyProof.Rows L2
section
variable {prog : Program} {w : World} {A : Around} {E : Value → Shared → Prop} {s : Shared} {e it T : Addr} {fp : List Addr} {n i : Nat} {P : Nat → Value → Prop} {St : Nat → Heap → Prop} {old : Value} {f : Bool} {oT : Obj}
theorem enumH_item {Q : Value → Shared → Prop} (D : Draws prog w A it fp n P St) (he : IsEnumHeld s.heap e it ((i : Nat) : Int) old T f) (hT : s.heap.get? T = some oT) (hTe : T ≠ e) (hTi : T ≠ it) (hst : St i s.heap) (hlt : i < n) (hne : e ≠ it) (hef : e ∉ fp)
    (hQ : ∀ x h' tk, P i x → IsEnumHeld h' e it ((i : Int) + 1) old T true → St (i + 1) h' → h'.get? s.heap.objs.size = some { cls := .type "tuple", data := .seq #[.int i tk, x] } →
      (∀ b o, b ≠ e → b ≠ it → s.heap.get? b = some o → h'.get? b = some o) → Q (.ref s.heap.objs.size) { s with heap := h', toks := tk + 1 }) :
    wpAny (model prog w) A (Builtin.«enumerate.__next__» ⟨[.ref e], []⟩) (fun fin s' => ∃ v, fin = .done (.ret v) ∧ Q v s') E s := by
  obtain ⟨hp, g, d, tk0, os⟩ := s
  refine (show wpAny _ _ (field (.ref e) 2 >>= _) _ _ _ from wpAny_bind (wpAny_field he rfl (x := .ref it) rfl ?_))
  refine (show wpAny _ _ (Builtin.SmallTypes.nextOf (.ref it) >>= _) _ _ ⟨hp, g, d, tk0, os⟩ from wpAny_bind (D.item i _ _ _ hlt hst fun x a1 tk hx n1 e1 => ?_))
  replace e1 : Heap.SameBut it hp a1 := e1
  have h1 : IsEnumHeld a1 e it i old T f := (e1.2 e hne).trans he
  refine (show wpAny _ _ (field (.ref e) 3 >>= _) _ _ ⟨a1, g, d, tk, os⟩ from wpAny_bind (wpAny_field h1 rfl (x := rawInt i) rfl ?_))
  refine (show wpAny _ _ (field (.ref e) 4 >>= _) _ _ ⟨a1, g, d, tk, os⟩ from wpAny_bind (wpAny_field h1 rfl (x := .none) rfl ?_))
  refine (show wpAny _ _ (mkInt i >>= _) _ _ ⟨a1, g, d, tk, os⟩ from wpAny_bind (wpAny_mkInt ?_))
  refine (show wpAny _ _ (setField (.ref e) 3 (rawInt ((i : Int) + 1)) >>= _) _ _ ⟨a1, g, d, tk + 1, os⟩ from wpAny_bind (wpAny_setField_rec h1 (by simp) fun a2 h2 e2 => ?_))
  replace e2 : Heap.SameBut e a1 a2 := e2
  replace h2 : IsEnumHeld a2 e it ((i : Int) + 1) old T f := h2
  refine (show wpAny _ _ (setField (.ref e) 4 .none >>= _) _ _ ⟨a2, g, d, tk + 1, os⟩ from wpAny_bind (wpAny_setField_rec h2 (by simp) fun a3 h3 e3 => ?_))
  replace e3 : Heap.SameBut e a2 a3 := e3
  replace h3 : IsEnumHeld a3 e it ((i : Int) + 1) old T f := h3
  refine (show wpAny _ _ (newTuple [.int i tk, x] >>= _) _ _ ⟨a3, g, d, tk + 1, os⟩ from wpAny_bind (wpAny_newTuple ?_))
  have h4 : IsEnumHeld (a3.push { cls := .type "tuple", data := .seq #[.int i tk, x] }) e it ((i : Int) + 1) old T f := Heap.get?_push_of_some _ h3
  generalize q4 : a3.push { cls := .type "tuple", data := .seq #[.int i tk, x] } = a4 at h4
  have sz : a3.objs.size = hp.objs.size := by rw [e3.1, e2.1, e1.1]
  have hel : e < hp.objs.size := Heap.lt_size he
  have t4 : a4.get? hp.objs.size = some { cls := .type "tuple", data := .seq #[.int i tk, x] } := by rw [← q4, ← sz]; exact Heap.get?_push_size _ rfl
  have k4 : ∀ b o, b ≠ e → b ≠ it → hp.get? b = some o → a4.get? b = some o := fun b o be bi hb => by
    rw [← q4]; exact Heap.get?_push_of_some _ (e3.extBut b o be (e2.extBut b o be (e1.extBut b o bi hb)))
  have n4 : St (i + 1) a4 := D.frame _ _ _ n1 fun b hb o y => by
    have be : b ≠ e := fun q => hef (q ▸ hb)
    rw [← q4]; exact Heap.get?_push_of_some _ (e3.extBut b o be (e2.extBut b o be y))
  refine (show wpAny _ _ (Builtin.SmallTypes.ownedTupleIsFree (.ref e) >>= _) _ _ ⟨a4, g, d, tk + 1, os⟩ from ?_)
  rw [sz]
  refine wpAny_bind (wpAny_tupleHeld_enum (s := ⟨a4, g, d, tk + 1, os⟩) h4 (k4 T oT hTe hTi hT) fun a5 h5 e5 => ?_)
  replace e5 : Heap.SameBut e a4 a5 := e5
  simp only [Bool.false_eq_true, if_false]
  exact wpAny_pure ⟨_, rfl, hQ x a5 tk hx h5 (D.over n4 e5 hef) (e5.extBut _ _ (Nat.ne_of_gt hel) t4) fun b o be bi hb => e5.extBut b o be (k4 b o be bi hb)⟩
theorem enumH_next {Q : Option Value → Shared → Prop} (D : Draws prog w A.in1 it fp n P St) (he : IsEnumHeld s.heap e it ((i : Nat) : Int) old T f) (hT : s.heap.get? T = some oT) (hTe : T ≠ e) (hTi : T ≠ it) (hst : St i s.heap) (hlt : i < n) (hne : e ≠ it) (hef : e ∉ fp)
    (hQ : ∀ x h' tk, P i x → IsEnumHeld h' e it ((i : Int) + 1) old T true → St (i + 1) h' → h'.get? s.heap.objs.size = some { cls := .type "tuple", data := .seq #[.int i tk, x] } →
      (∀ b o, b ≠ e → b ≠ it → s.heap.get? b = some o → h'.get? b = some o) → Q (some (.ref s.heap.objs.size)) { s with heap := h', toks := tk + 1 }) :
    wpAny (model prog w) A (pyNext (.ref e)) Q E s := by
  have ty : s.TypeIs (.ref e) "enumerate" := ⟨_, he, rfl⟩
  unfold pyNext
  exact wpAny_bind (wpAny_attempt (wpAny_callSpecial?_slot (name := Str.ofString "__next__") ty PySem.F.slot_enumerate_next
    (wpAny_call_entry PySem.F.slot_enumerate_next ty PySem.F.entry_enumerate_next
      (enumH_item D he hT hTe hTi hst hlt hne hef fun x h' tk a b c d k => wpAny_pure (hQ x h' tk a b c d k)) (PySem.F.args_enumerate_next_1 _))))
theorem enumH_endT {l : Addr} {items : Array Value} {Q : Option Value → Shared → Prop} (hh : A.handled = none)
    (he : IsEnumHeld s.heap e it ((i : Nat) : Int) old T f) (hit : s.heap.IsTupleIter it l i) (hl : s.heap.IsTuple l items) (hx : items[i]? = none)
    (hQ : ∀ h', Heap.ExtBut it s.heap h' → Q none { s with heap := h' }) : wpAny (model prog w) A (pyNext (.ref e)) Q E s := by
  have ty : s.TypeIs (.ref e) "enumerate" := ⟨_, he, rfl⟩
  unfold pyNext
  refine wpAny_bind (wpAny_attempt (wpAny_callSpecial?_slot (name := Str.ofString "__next__") ty PySem.F.slot_enumerate_next
    (wpAny_call_entry PySem.F.slot_enumerate_next ty PySem.F.entry_enumerate_next ?_ (PySem.F.args_enumerate_next_1 _))))
  refine (show wpAny _ _ (field (.ref e) 2 >>= _) _ _ _ from wpAny_bind (wpAny_field he rfl (x := .ref it) rfl ?_))
  refine wpAny_bind (RZ.nextOf_tuple_end hh hit hl hx fun h' x e1 ⟨o, ho, hc⟩ => ?_)
  exact wpAny_bind (wpAny_isInstance (T := "StopIteration") (b := true) ⟨o, ho, hc⟩ isSubtype_stop (wpAny_pure (hQ _ e1)))
end
/-- enumerate of a tuple as dict()'s argument -/
theorem pairArg_enumT {prog : Program} {w : World} (e it l : Addr) (hei : e ≠ it) (hle : l ≠ e) (hli : l ≠ it) (items : Array Value) :
    PairArg prog w "enumerate" e [e, it, l] [e, it] items.size (fun i k v => (∃ t, k = .int i t) ∧ items[i]? = some v)
      (fun h => (∃ old, IsEnum h e it 0 old) ∧ h.IsTupleIter it l 0 ∧ h.IsTuple l items) where
  type := fun s ok => let ⟨⟨_, he⟩, _⟩ := ok; ⟨_, he, rfl⟩
  notDict := by decide
  keep := fun h h' ok hk => by
    obtain ⟨⟨old, he⟩, hit, hl⟩ := ok
    exact ⟨⟨old, hk _ _ he⟩, hit.at fun o x => hk _ o x, hl.at fun o x => hk _ o x⟩
  there := fun h ok b hb => by
    obtain ⟨⟨old, he⟩, ⟨o1, h1, _⟩, ⟨o2, h2, _⟩⟩ := ok
    simp only [List.mem_cons, List.not_mem_nil, or_false] at hb
    rcases hb with rfl | rfl | rfl
    all_goals first | exact ⟨_, he⟩ | exact ⟨_, h1⟩ | exact ⟨_, h2⟩
  sub := fun b hb => by simp at hb ⊢; rcases hb with rfl | rfl <;> simp
  noKeys := fun A s Q E hA ok h => let ⟨⟨_, he⟩, _⟩ := ok; getAttrOr_miss_enumerate he rfl rfl rfl enumerate_no_keys (by decide +kernel) hA h
  iter := fun A s d Q E hA ok hd hdf h => by
    obtain ⟨⟨old, he⟩, hit, hl⟩ := ok
    simp only [List.mem_cons, List.not_mem_nil, or_false, not_or] at hdf
    obtain ⟨de, dit, dl⟩ := hdf
    have D := Draws.tuple (prog := prog) (w := w) (A := A.in1) (show A.in1.handled = none from hA) it l hli items
    refine wpAny_pyIter_enum he (h e [e, it] (fun i h => (h.IsTupleIter it l i ∧ h.IsTuple l items) ∧ ((∃ old, IsEnum h e it i old) ∨ ∃ old T f oT, IsEnumHeld h e it i old T f ∧ h.get? T = some oT ∧ T ≠ e ∧ T ≠ it ∧ T ≠ d)) s.heap s.toks ?_
      ⟨⟨hit, hl⟩, .inl ⟨old, he⟩⟩ (fun _ _ e => e) fun b hb => .inl hb)
    exact {
      off := fun hm => by
        simp only [List.mem_cons, List.not_mem_nil, or_false] at hm
        rcases hm with x | x
        · exact de x
        · exact dit x
      frame := fun i h₁ h₂ st hk => by
        obtain ⟨⟨hit, hl⟩, he⟩ := st
        refine ⟨⟨hit.at fun o x => hk _ o (Ne.symm dit) x, hl.at fun o x => hk _ o (Ne.symm dl) x⟩, ?_⟩
        rcases he with ⟨old, he⟩ | ⟨old, T, f, oT, he, hT, r1, r2, r3⟩
        · exact .inl ⟨old, hk _ _ (Ne.symm de) he⟩
        · exact .inr ⟨old, T, f, oT, hk _ _ (Ne.symm de) he, hk _ _ r3 hT, r1, r2, r3⟩
      item := fun i s₁ Q₁ E₁ hi st hds hQ => by
        obtain ⟨st, he⟩ := st
        have ec : ((i + 1 : Nat) : Int) = (i : Int) + 1 := by omega
        have nit : s₁.heap.objs.size ≠ it := let ⟨⟨_, x, _⟩, _⟩ := st; Nat.ne_of_gt (Heap.lt_size x)
        have hef : e ∉ [it, l] := by simp [hei, Ne.symm hle]
        rcases he with ⟨old, he⟩ | ⟨old, T, f, oT, he, hT, r1, r2, r3⟩
        · refine wpAny_pyNext_enum_itemD D he st hi hei hef fun x h' tk hx ho st' hT hsz hk => ?_
          exact hQ s₁.heap.objs.size _ _ h' (tk + 1) ⟨⟨_, rfl⟩, hx⟩ (.inl ⟨_, hT, rfl, _, rfl⟩)
            ⟨st', .inr ⟨_, s₁.heap.objs.size, false, _, (by rw [ec]; exact ho), hT, Nat.ne_of_gt (Heap.lt_size he), nit, Nat.ne_of_gt hds⟩⟩
            fun b o hb x => hk b o (fun y => hb (by simp [y])) (fun y => hb (by simp [y])) x
        · refine enumH_next D he hT r1 r2 st hi hei hef fun x h' tk hx ho st' hT' hk => ?_
          exact hQ s₁.heap.objs.size _ _ h' (tk + 1) ⟨⟨_, rfl⟩, hx⟩ (.inl ⟨_, hT', rfl, _, rfl⟩)
            ⟨st', .inr ⟨old, T, true, oT, (by rw [ec]; exact ho), hk _ _ r1 r2 hT, r1, r2, r3⟩⟩
            fun b o hb x => hk b o (fun y => hb (by simp [y])) (fun y => hb (by simp [y])) x
      done := fun s₁ Q₁ E₁ st hQ => by
        obtain ⟨⟨hit, hl⟩, he⟩ := st
        have hx : items[items.size]? = none := Array.getElem?_eq_none (Nat.le_refl _)
        rcases he with ⟨old, he⟩ | ⟨old, T, f, oT, he, hT, r1, r2, r3⟩
        · exact enum_endT hA he hit hl hx fun h' hk => hQ h' s₁.toks fun b o hb x => hk b o (fun y => hb (by simp [y])) x
        · exact enumH_endT hA he hit hl hx fun h' hk => hQ h' s₁.toks fun b o hb x => hk b o (fun y => hb (by simp [y])) x }
def eK : Nat → List V → List (Key × V)
  | _, [] => []
  | n, x :: r => (.inl (n : Int), x) :: eK (n + 1) r
def eV : Nat → List Value → List (Key × Value)
  | _, [] => []
  | n, x :: r => (.inl (n : Int), x) :: eV (n + 1) r
theorem eK_len : ∀ (n : Nat) (xs : List V), (eK n xs).length = xs.length
  | _, [] => rfl
  | n, x :: r => by simp [eK, eK_len (n + 1) r]
theorem eV_len : ∀ (n : Nat) (xs : List Value), (eV n xs).length = xs.length
  | _, [] => rfl
  | n, x :: r => by simp [eV, eV_len (n + 1) r]
theorem eV_get : ∀ (n : Nat) (xs : List Value) (i : Nat) (v : Value), xs[i]? = some v → (eV n xs)[i]? = some (.inl ((n + i : Nat) : Int), v)
  | _, [], _, _, h => by simp at h
  | n, x :: r, 0, v, h => by simp at h; subst h; rfl
  | n, x :: r, i + 1, v, h => by
    have := eV_get (n + 1) r i v (by simpa using h)
    simp only [eV, List.getElem?_cons_succ, this]
    congr 3
    omega
theorem eKV : ∀ {xs : List V} {its : List Value} (n : Nat), Vals xs its → KV (eK n xs) (eV n its)
  | _, _, n, .nil => Paired.nil
  | _, _, n, .cons r t => Paired.cons ⟨rfl, r⟩ (eKV (n + 1) t)
theorem eK_merge : ∀ (xs : List V) (n : Nat) (acc : List (Key × V)), (∀ kv ∈ acc, ∃ i : Int, kv.1 = .inl i ∧ i < n) → mergeK acc (eK n xs) = acc ++ eK n xs
  | [], n, acc, _ => by simp [eK, mergeK]
  | x :: r, n, acc, h => by
    have h0 : putK acc (.inl (n : Int)) x = acc ++ [(.inl (n : Int), x)] := by
      unfold putK
      rw [if_neg]
      intro c
      obtain ⟨kv, hm, e⟩ := List.any_eq_true.mp c
      obtain ⟨i, e1, e2⟩ := h kv hm
      have e := of_decide_eq_true e
      rw [e1] at e
      have := Sum.inl.inj e
      omega
    have ih := eK_merge r (n + 1) (acc ++ [(.inl (n : Int), x)]) fun kv hm => by
      rcases List.mem_append.mp hm with hm | hm
      · obtain ⟨i, e1, e2⟩ := h kv hm
        exact ⟨i, e1, by omega⟩
      · rw [List.mem_singleton.mp hm]
        exact ⟨n, rfl, by omega⟩
    have e : mergeK acc (eK n (x :: r)) = mergeK (putK acc (.inl (n : Int)) x) (eK (n + 1) r) := rfl
    rw [e, h0, ih]
    simp [eK]
def tDictEn (K : PySem.W.Frag) (ta : TA) : TE := fun σ H Q => ta σ H fun vs H1 => ∃ (a : Addr) (xs : List V), vs = [V.ref a] ∧ SqT K H1 a xs ∧ ∀ p, H1 p = none → Q (.ref p) (upd H1 p (.dK (eK 0 xs)))
theorem pe_dictEn {X : Cx} {e : Expr} {ta : TA} {p p2 pos pos2 : Pos} (hc : X.calm = true) (hg : Gl X "dict") (hm : X.mg "dict" = none) (hg2 : Gl X "enumerate") (hm2 : X.mg "enumerate" = none) (ha : PA X [e] ta) (hs : starEach [e] X.env = [(false, eval e X.env)] := by rfl)
    (na : starEach [.Call (.Name "enumerate" p2) [e] [] pos2] X.env = (false, eval (.Call (.Name "enumerate" p2) [e] [] pos2) X.env) :: starEach [] X.env := by rfl) :
    PE X (.Call (.Name "dict" p) [.Call (.Name "enumerate" p2) [e] [] pos2] [] pos) (tDictEn X.K ta) := by
  refine ⟨fun pins s σ H Q I h => ?_⟩
  refine Call_ (ld_blt I hg hm PyProof.Rows.boot_dict (PyProof.Rows.callWith_type1 (args_cons ?_ na) na))
  refine Call_ (ld_blt I hg2 hm2 boot_enumerate (PyProof.Rows.callWith_type1 (thn (ha.run pos2 pins s σ H _ I h) fun us s1 ⟨vs, H1, I1, r1, a, xs, ex, hq, q⟩ => ?_) hs rfl))
  subst ex
  obtain ⟨u1, rfl, ra⟩ := r1.one
  cases ra
  obtain ⟨its, rv, p', hz⟩ := I1.tuple hq
  refine enum_begins1 (begins_tuple a its.toArray) (show s1.heap.IsTuple a its.toArray from p') fun h' he hit hsz hk => args_nil ?_
  obtain ⟨oa, hoa, _⟩ := id p'
  have la : @LT.lt Nat _ a s1.heap.objs.size := Heap.lt_size hoa
  have sz : its.toArray.size = xs.length := by rw [rv.length]; simp
  have pt : h'.IsTuple a its.toArray := Heap.IsTuple.at (show s1.heap.IsTuple a its.toArray from p') fun o e => hk a o e
  refine call_dict_pairs (s := { s1 with heap := h' }) (knd := mixKind X.prog X.w) (kvs := eV 0 its) (pairArg_enumT (s1.heap.objs.size + 1) s1.heap.objs.size a (Nat.succ_ne_self _) (fun z => absurd (show @LT.lt Nat _ a s1.heap.objs.size from la) (by rw [z]; omega)) (fun z => absurd la (by rw [z]; exact Nat.lt_irrefl _)) its.toArray)
    (I1.ok.hd hc) ⟨⟨.none, he⟩, ⟨_, hit, rfl, rfl⟩, pt⟩ ⟨by rw [eV_len]; simp, fun i key v ⟨⟨t, ek⟩, hv⟩ => ⟨.inl ((0 + i : Nat) : Int), eV_get 0 its i v (by simpa using hv), ?_⟩⟩ (by rw [sz]; exact hz) fun h2 tk hD kp => ?_
  · subst ek
    rw [Nat.zero_add]
    simp [mixKind, keyIs, Value.isInt]
  · have rel := (eKV 0 rv).merge (kvs := []) (vs := []) .nil
    rw [eK_merge xs 0 [] (by simp), List.nil_append] at rel
    have big : (h'.objs.size == sysModules) = false := beq_eq_false_iff_ne.mpr (Ne.symm (Nat.ne_of_lt (Nat.lt_of_lt_of_le I1.big (by rw [hsz]; omega))))
    have le : s1.heap.objs.size ≤ h'.objs.size := by rw [hsz]; omega
    refine ⟨.ref h'.objs.size, _, I1.laid (t' := tk) (a := h'.objs.size) (o := .dK (eK 0 xs)) (fun b o e => ?_) le (dk_new (by rw [eK_len]; exact hz) big rel hD), rfl, q _ (I1.hok.fresh le)⟩
    have lb : @LT.lt Nat _ b s1.heap.objs.size := Heap.lt_size e
    refine kp b o (fun hm => ?_) (hk b o e)
    simp only [List.mem_cons, List.not_mem_nil, or_false] at hm
    rcases hm with z | z
    · exact absurd lb (by rw [z]; omega)
    · exact absurd lb (by rw [z]; exact Nat.lt_irrefl _)
def keysN (n : Nat) : List D := (List.range n).map fun i : Nat => .int (i : Int)
theorem eK_vals : ∀ (n : Nat) (xs : List V), (eK n xs).map (·.2) = xs
  | _, [] => rfl
  | n, x :: r => by simp [eK, eK_vals (n + 1) r]
theorem eK_keys0 : ∀ (n : Nat) (xs : List V), (eK n xs).map (fun p => kD p.1) = (List.range' n xs.length).map fun i : Nat => PyData.int (i : Int)
  | _, [] => rfl
  | n, x :: r => by
    have := eK_keys0 (n + 1) r
    simp only [eK, List.map_cons, List.length_cons, List.range'_succ, this]
    rfl
theorem eK_keys (xs : List V) : (eK 0 xs).map (fun p => kD p.1) = keysN xs.length := by
  rw [eK_keys0]; unfold keysN; rw [List.range_eq_range']
def wDictEn (w : WE) : WE := fun e Q => w e fun x e1 => ∃ xs, x = .tuple xs ∧ Q (.dict ((keysN xs.length).zip xs)) e1
section
variable {X : Cx} {κ : List SK} {M : List Nat} {k : RK} {a : Expr} {w : WE} {p p2 pos pos2 : Pos}
theorem se_dictEn (hg : Gl X "dict") (hm : X.mg "dict" = none) (hg2 : Gl X "enumerate") (hm2 : X.mg "enumerate" = none) (ha : SE X κ M k a w) (hc : X.calm = true := by rfl) (pa : k.rdable = true := by rfl)
    (hs : starEach [a] X.env = [(false, eval a X.env)] := by rfl) (he : starEach [a] X.env = (false, eval a X.env) :: starEach [] X.env := by rfl)
    (na : starEach [.Call (.Name "enumerate" p2) [a] [] pos2] X.env = (false, eval (.Call (.Name "enumerate" p2) [a] [] pos2) X.env) :: starEach [] X.env := by rfl) :
    SE X κ M .nw (.Call (.Name "dict" p) [.Call (.Name "enumerate" p2) [a] [] pos2] [] pos) (wDictEn w) :=
  SE.of (pe_dictEn hc hg hm hg2 hm2 (pa_cons ha pa_nil he) hs na) fun σ H Q ⟨g, env, W, F, hw, post⟩ => ⟨g, env, _, F, hw, fun v H1 g1 e1 d F1 s1 r1 ⟨xs, ex, w1⟩ => by
    subst ex
    obtain ⟨c, rfl, sr⟩ := src_tup (N := nOf k) pa r1
    obtain ⟨vs, q, al⟩ := sq_t sr
    refine ⟨c, vs, rfl, q, fun p np => ?_⟩
    have F2 := F1.new (o := .dK (eK 0 vs)) np
    have hal : RepAll X.K (L2.upd H1 p (.dK (eK 0 vs))) (g1.add p).own ((eK 0 vs).map (·.2)) xs := by
      rw [eK_vals]
      refine al.keep (fun a o _ e => same_new np a o e) fun a o => ?_
      rcases o with (o | o) | ⟨i, o⟩
      · exact .inl (.inl o)
      · subst o; exact .inr np
      · exact .inl (.inr ⟨i, o⟩)
    have ob := Obj1.dK (a := p) (upd_same (H := H1) (o := .dK (eK 0 vs))) hal
    rw [eK_keys, al.length] at ob
    have nH : H p = none := s1.there F F1 np
    exact post _ _ (g1.add p) e1 _ F2 (s1.tr (EStep.new np) F F1) ⟨p, rfl, nH, .inr rfl, fun z => F1.own_ne (F1.p_own z) np, ob⟩ w1⟩
end
end G7

namespace G7
namespace K12
open PySem
/-- _law_dig(cell): slots 0 cell:r; modes ['rd']; answer nw -/
def wb_l_dig : WS :=
  (wRet (wList (waCons (wBlt max2D (waCons (wC (.int 0)) (waCons (wOp2 subD (wVar 0) (wOp2 powD (wC (.int 10)) (wC (.int 18)))) waNil))) (waCons (wOp2 modD (wVar 0) (wOp2 powD (wC (.int 10)) (wC (.int 18)))) (waCons (wC (.int 0)) waNil)))))

/-- _law_next(pool, base): slots 0 pool:p, 1 base:r, 2 digit:v, 3 mixed:v, 4 stir:v; modes ['pl', 'rd']; answer fz -/
def wb_l_next : WS :=
  (wSeq (wIf (tVal (wOp2 gtD (wPlIx 0) (wC (.int 0)))) (wSeq (wAsg 2 (wOp2 modD (wPlIx 0) (wVar 1)))
    (wSeq (wPlSet 0 (wOp2 fdivD (wPlIx 0) (wVar 1)))
    (wRet (wVar 2)))) wNil)
    (wSeq (wPlSet 0 (wOp2 addD (wPlIx 0) (wC (.int 1))))
    (wSeq (wAsg 3 (wOp2 modD (wOp2 addD (wPlIx 0) (wOp2 mulID (wC (.int 7919)) (wPlIx 0))) (wC (.int 1000000007))))
    (wSeq (wAsg 4 (wOp2 modD (wOp2 mulID (wOp2 addD (wVar 3) (wC (.int 11))) (wOp2 addD (wVar 3) (wC (.int 48271)))) (wC (.int 998244353))))
    (wRet (wOp2 modD (wOp2 fdivD (wOp2 modD (wOp2 mulID (wVar 4) (wVar 4)) (wC (.int 2147483647))) (wC (.int 8))) (wVar 1)))))))

/-- _law_renamed(web, names): slots 0 web:r, 1 names:r, 2 ties:v, 3 a:v, 4 b:v; modes ['rd', 'rd']; answer fz -/
def wb_l_renamed : WS :=
  (wSeq (wAsg 2 (wComp (wiSeq (wOp2 ixD (wVar 0) (wC (.int 1)))) (gT [(gN 3), (gN 4)]) [3, 4] G7.tYes (wTup (waCons (wBlt min2D (waCons (wOp2 ixD (wVar 1) (wVar 3)) (waCons (wOp2 ixD (wVar 1) (wVar 4)) waNil))) (waCons (wBlt max2D (waCons (wOp2 ixD (wVar 1) (wVar 3)) (waCons (wOp2 ixD (wVar 1) (wVar 4)) waNil))) waNil)))))
    (wRet (wTup (waCons (wOp2 ixD (wVar 0) (wC (.int 0))) (waCons (wBlt tupD (waCons (wBlt sortedAD (waCons (wVar 2) waNil)) waNil)) waNil)))))

/-- _law_order(pool, many): slots 0 pool:p, 1 many:r, 2 left:o, 3 k:v; modes ['pl', 'rd']; answer fz -/
def wb_l_order (S_l_next : FS) : WS :=
  (wSeq (wAsg 2 (wLstRg (wiRg1 (wVar 1))))
    (wRet (wBlt tupD (waCons (wComp (wiRg1 (wVar 1)) (gN 3) [3] G7.tYes (wMut 2 popAtF (waCons (wCall S_l_next (waCons (wVar 0) (waCons (wBlt lenD (waCons (wVar 2) waNil)) waNil))) waNil))) waNil))))

/-- _law_web(pool, most, cap): slots 0 pool:p, 1 most:r, 2 cap:r, 3 many:v, 4 pairs:v, 5 b:v, 6 way:v, 7 first:v, 8 size:v, 9 dense:v, 10 more:o, 11 a:v, 12 k:v, 13 pair:v; modes ['pl', 'rd', 'rd']; answer fz -/
def wb_l_web (S_l_next : FS) (S_l_renamed : FS) (S_l_order : FS) : WS :=
  (wSeq (wAsg 3 (wOp2 addD (wC (.int 1)) (wCall S_l_next (waCons (wVar 0) (waCons (wVar 1) waNil)))))
    (wSeq (wAsg 4 (wList waNil))
    (wSeq (wFor (wiRg1 (wVar 3)) (gN 5) (wAsg 4 (wOp2 addD (wVar 4) (wComp (wiRg1 (wVar 5)) (gN 11) [11] G7.tYes (wTup (waCons (wVar 11) (waCons (wVar 5) waNil)))))))
    (wSeq (wAsg 6 (wCall S_l_next (waCons (wVar 0) (waCons (wC (.int 6)) waNil))))
    (wSeq (wAsg 7 (wList waNil))
    (wSeq (wIf (tAnd (tVal (wOp2 eqD (wVar 6) (wC (.int 0)))) (tVal (wOp2 gtD (wVar 3) (wC (.int 1))))) (wAsg 7 (wComp (wiRg2 (wC (.int 1)) (wVar 3)) (gN 5) [5] G7.tYes (wTup (waCons (wCall S_l_next (waCons (wVar 0) (waCons (wVar 5) waNil))) (waCons (wVar 5) waNil))))) wNil)
    (wSeq (wIf (tVal (wOp2 eqD (wVar 6) (wC (.int 1)))) (wAsg 7 (wComp (wiRg1 (wVar 3)) (gN 12) [12] (tVal (wOp2 gtD (wVar 3) (wC (.int 2)))) (wTup (waCons (wBlt min2D (waCons (wVar 12) (waCons (wOp2 modD (wOp2 addD (wVar 12) (wC (.int 1))) (wVar 3)) waNil))) (waCons (wBlt max2D (waCons (wVar 12) (waCons (wOp2 modD (wOp2 addD (wVar 12) (wC (.int 1))) (wVar 3)) waNil))) waNil))))) wNil)
    (wSeq (wIf (tVal (wOp2 eqD (wVar 6) (wC (.int 2)))) (wSeq (wAsg 8 (wOp2 addD (wC (.int 2)) (wCall S_l_next (waCons (wVar 0) (waCons (wC (.int 4)) waNil)))))
    (wAsg 7 (wComp (wiSeq (wVar 4)) (gN 13) [13] (tVal (wOp2 ltD (wOp2 ixD (wVar 13) (wC (.int 1))) (wVar 8))) (wVar 13)))) wNil)
    (wSeq (wAsg 9 (wOp2 ixD (wList (waCons (wC (.int 2)) (waCons (wC (.int 3)) (waCons (wC (.int 4)) (waCons (wC (.int 9)) waNil))))) (wCall S_l_next (waCons (wVar 0) (waCons (wC (.int 4)) waNil)))))
    (wSeq (wAsg 10 (wComp (wiSeq (wVar 4)) (gN 13) [13] (tAnd (tVal (wOp2 notInD (wVar 13) (wVar 7))) (tVal (wOp2 eqD (wCall S_l_next (waCons (wVar 0) (waCons (wVar 9) waNil))) (wC (.int 0))))) (wVar 13)))
    (wSeq (wWhile (tAnd (tVal (wOp2 gtD (wOp2 addD (wBlt lenD (waCons (wVar 7) waNil)) (wBlt lenD (waCons (wVar 10) waNil))) (wVar 2))) (tVal (wOp2 neD (wVar 10) (wList waNil)))) (wExpr (wMut 10 popAtF (waCons (wCall S_l_next (waCons (wVar 0) (waCons (wBlt lenD (waCons (wVar 10) waNil)) waNil))) waNil))))
    (wRet (wCall S_l_renamed (waCons (wTup (waCons (wVar 3) (waCons (wBlt tupD (waCons (wBlt sortedAD (waCons (wOp2 addD (wSl slD (wVar 7) woN (woS (wVar 2))) (wVar 10)) waNil)) waNil)) waNil))) (waCons (wCall S_l_order (waCons (wVar 0) (waCons (wVar 3) waNil))) waNil)))))))))))))))

/-- _law_far(pool): slots 0 pool:p, 1 found:v, 2 k:v; modes ['pl']; answer fz -/
def wb_l_far (S_l_next : FS) : WS :=
  (wSeq (wAsg 1 (wC (.int 0)))
    (wSeq (wFor (wiRg1 (wOp2 addD (wC (.int 1)) (wCall S_l_next (waCons (wVar 0) (waCons (wC (.int 3)) waNil))))) (gN 2) (wAsg 1 (wOp2 addD (wOp2 mulID (wVar 1) (wOp2 powD (wC (.int 10)) (wC (.int 6)))) (wCall S_l_next (waCons (wVar 0) (waCons (wOp2 powD (wC (.int 10)) (wC (.int 6))) waNil))))))
    (wRet (wVar 1))))

/-- _law_odd(pool, hues): slots 0 pool:p, 1 hues:v, 2 at:v, 3 far:v, 4 found:o, 5 thing:v; modes ['pl', 'fz']; answer fz -/
def wb_l_odd (S_l_next : FS) (S_l_far : FS) : WS :=
  (wSeq (wAsg 2 (wCall S_l_next (waCons (wVar 0) (waCons (wBlt lenD (waCons (wVar 1) waNil)) waNil))))
    (wSeq (wAsg 3 (wCall S_l_far (waCons (wVar 0) waNil)))
    (wSeq (wAsg 4 (wList (waCons (wBlt lstD (waCons (wVar 1) waNil)) (waCons (wC .none) (waCons (wBlt lenD (waCons (wVar 1) waNil)) (waCons (wBlt strD (waCons (wVar 3) waNil)) (waCons (wOp2 addD (wSl slD (wVar 1) woN (woS (wVar 2))) (wSl slD (wVar 1) (woS (wOp2 addD (wVar 2) (wC (.int 1)))) woN)) (waCons (wOp2 addD (wVar 1) (wTup (waCons (wVar 3) waNil))) (waCons (wTup (waCons (wVar 1) waNil)) (waCons (wTup waNil) waNil))))))))))
    (wSeq (wExpr (wMut 4 appendF (waCons (wDictEn (wVar 1)) waNil)))
    (wSeq (wFor (wiSeq (wList (waCons (wC (.bool true)) (waCons (wC (.bool false)) (waCons (wC .none) (waCons (wBlt strD (waCons (wVar 3) waNil)) (waCons (wTup (waCons (wVar 3) waNil)) (waCons (wList (waCons (wVar 3) waNil)) (waCons (wC (.dict [])) (waCons (wTup (waCons (wOp2 ixD (wVar 1) (wVar 2)) waNil)) (waCons (wC (.str "")) waNil))))))))))) (gN 5) (wExpr (wMut 4 appendF (waCons (wOp2 addD (wOp2 addD (wSl slD (wVar 1) woN (woS (wVar 2))) (wTup (waCons (wVar 5) waNil))) (wSl slD (wVar 1) (woS (wOp2 addD (wVar 2) (wC (.int 1)))) woN)) waNil))))
    (wRet (wVar 4)))))))

/-- _law_cell(script, k): slots 0 script:r, 1 k:r; modes ['rd', 'rd']; answer fz -/
def wb_l_cell : WS :=
  (wSeq (wIf (tVal (wOp2 ltD (wVar 1) (wBlt lenD (waCons (wVar 0) waNil)))) (wRet (wOp2 ixD (wVar 0) (wVar 1))) wNil)
    (wRet (wOp2 addD (wOp2 mulID (wOp2 mulID (wC (.int 7919)) (wVar 1)) (wVar 1)) (wOp2 mulID (wC (.int 31)) (wVar 1)))))

/-- is_whole(thing): slots 0 thing:r; modes ['rd']; answer fz -/
def wb_is_whole : WS :=
  (wRet (wAnd (wOp1 (isTD "int") (wVar 0)) (wNot (wOp1 (isTD "bool") (wVar 0)))))

/-- is_hues(web, thing): slots 0 web:r, 1 thing:r, 2 number:v, 3 a:v, 4 b:v; modes ['rd', 'rd']; answer fz -/
def wb_is_hues (S_is_whole : FS) : WS :=
  (wSeq (wIf (tOr (tNot (tVal (wOp1 (isTD "tuple") (wVar 1)))) (tOr (tVal (wOp2 neD (wBlt lenD (waCons (wVar 1) waNil)) (wOp2 ixD (wVar 0) (wC (.int 0))))) (tNot (tVal (wBlt allD (waCons (wComp (wiSeq (wVar 1)) (gN 2) [2] G7.tYes (wCall S_is_whole (waCons (wVar 2) waNil))) waNil)))))) (wRet (wC (.bool false))) wNil)
    (wRet (wBlt allD (waCons (wComp (wiSeq (wOp2 ixD (wVar 0) (wC (.int 1)))) (gT [(gN 3), (gN 4)]) [3, 4] G7.tYes (wOp2 neD (wOp2 ixD (wVar 1) (wVar 3)) (wOp2 ixD (wVar 1) (wVar 4)))) waNil))))

/-- _law_due(web, thing): slots 0 web:r, 1 thing:r, 2 number:v, 3 a:v, 4 b:v; modes ['rd', 'rd']; answer fz -/
def wb_l_due : WS :=
  (wSeq (wIf (tOr (tNot (tVal (wOp1 (isTD "tuple") (wVar 1)))) (tVal (wOp2 neD (wBlt lenD (waCons (wVar 1) waNil)) (wOp2 ixD (wVar 0) (wC (.int 0)))))) (wRet (wC (.bool false))) wNil)
    (wSeq (wFor (wiSeq (wVar 1)) (gN 2) (wIf (tOr (tNot (tVal (wOp1 (isTD "int") (wVar 2)))) (tVal (wOp1 (isTD "bool") (wVar 2)))) (wRet (wC (.bool false))) wNil))
    (wRet (wBlt allD (waCons (wComp (wiSeq (wOp2 ixD (wVar 0) (wC (.int 1)))) (gT [(gN 3), (gN 4)]) [3, 4] G7.tYes (wOp2 neD (wOp2 ixD (wVar 1) (wVar 3)) (wOp2 ixD (wVar 1) (wVar 4)))) waNil)))))

/-- law(script): slots 0 script:r, 1 k:v, 2 pool:p, 3 web:v, 4 hues:v, 5 thing:v, 6 found:v; modes ['rd']; answer fz -/
def wb_law (S_l_dig : FS) (S_l_cell : FS) (S_l_web : FS) (S_l_order : FS) (S_is_hues : FS) (S_l_odd : FS) (S_l_due : FS) : WS :=
  (wSeq (wFor (wiRg1 (wBlt max2D (waCons (wC (.int 4)) (waCons (wBlt min2D (waCons (wC (.int 63)) (waCons (wBlt lenD (waCons (wVar 0) waNil)) waNil))) waNil)))) (gN 1) (wSeq (wAsgP 2 (wCall S_l_dig (waCons (wCall S_l_cell (waCons (wVar 0) (waCons (wVar 1) waNil))) waNil)))
    (wSeq (wAsg 3 (wCall S_l_web (waCons (wVar 2) (waCons (wC (.int 9)) (waCons (wC (.int 20)) waNil)))))
    (wSeq (wAsg 4 (wCall S_l_order (waCons (wVar 2) (waCons (wOp2 ixD (wVar 3) (wC (.int 0))) waNil))))
    (wSeq (wIf (tVal (wOp2 isNotD (wCall S_is_hues (waCons (wVar 3) (waCons (wVar 4) waNil))) (wC (.bool true)))) (wRet (wC (.bool false))) wNil)
    (wFor (wiSeq (wCall S_l_odd (waCons (wVar 2) (waCons (wVar 4) waNil)))) (gN 5) (wSeq (wAsg 6 (wCall S_is_hues (waCons (wVar 3) (waCons (wVar 5) waNil))))
    (wIf (tOr (tNot (tVal (wOp1 (isTD "bool") (wVar 6)))) (tVal (wOp2 neD (wVar 6) (wCall S_l_due (waCons (wVar 3) (waCons (wVar 5) waNil)))))) (wRet (wC (.bool false))) wNil))))))))
    (wRet (wC (.bool true))))

end K12
end G7

namespace G7
open PySem

section
variable {e : En} {i j : Nat} {d x y : D} {Q : D → En → Prop} {QT : Bool → En → Prop} {QA : List D → En → Prop} {QO : Option Int → En → Prop} {W : WD} {a b c : WE} {r : WA} {s t : WT} {f : D → D → Option D} {f1 : D → Option D} {fl : List D → Option D} {S : FS} {g : WG} {lo hi : WO} {p q : WS} {it : WI}
@[simp] theorem r_var : wVar i e Q = ∃ d, e[i]? = some (some d) ∧ Q d e := rfl
@[simp] theorem r_c : wC d e Q = Q d e := rfl
@[simp] theorem r_op1 : wOp1 f1 a e Q = a e fun x e1 => ∃ z, f1 x = some z ∧ Q z e1 := rfl
@[simp] theorem r_op2 : wOp2 f a b e Q = a e fun x e1 => b e1 fun y e2 => ∃ z, f x y = some z ∧ Q z e2 := rfl
@[simp] theorem r_nil : waNil e QA = QA [] e := rfl
@[simp] theorem r_cons : waCons a r e QA = a e fun x e1 => r e1 fun xs e2 => QA (x :: xs) e2 := rfl
@[simp] theorem r_list : wList r e Q = r e fun xs e1 => xs.length ≤ lim ∧ Q (.list xs) e1 := rfl
@[simp] theorem r_tup : wTup r e Q = r e fun xs e1 => xs.length ≤ lim ∧ Q (.tuple xs) e1 := rfl
@[simp] theorem r_call : wCall S r e Q = r e fun xs e1 => S xs fun r => Q r e1 := rfl
@[simp] theorem r_blt : wBlt fl r e Q = r e fun xs e1 => ∃ z, fl xs = some z ∧ Q z e1 := rfl
@[simp] theorem r_on : woN e QO = QO none e := rfl
@[simp] theorem r_os : woS a e QO = a e fun x e1 => ∃ i, x = .int i ∧ QO (some i) e1 := rfl
@[simp] theorem r_sl {h : D → Option Int → Option Int → Option D} : wSl h a lo hi e Q = a e fun x e1 => lo e1 fun l e2 => hi e2 fun u e3 => ∃ z, h x l u = some z ∧ Q z e3 := rfl
@[simp] theorem r_val : tVal a e QT = a e fun x e1 => ∃ b, x = .bool b ∧ QT b e1 := rfl
@[simp] theorem r_tand : tAnd s t e QT = s e fun b e1 => if b = true then t e1 QT else QT false e1 := rfl
@[simp] theorem r_tor : tOr s t e QT = s e fun b e1 => if b = true then QT true e1 else t e1 QT := rfl
@[simp] theorem r_tnot : tNot s e QT = s e fun b e1 => QT (!b) e1 := rfl
@[simp] theorem r_yes : G7.tYes e QT = QT true e := rfl
@[simp] theorem r_and : wAnd a b e Q = a e fun x e1 => ∃ c, x = .bool c ∧ if c = true then b e1 Q else Q (.bool false) e1 := rfl
@[simp] theorem r_or : wOr a b e Q = a e fun x e1 => ∃ c, x = .bool c ∧ if c = true then Q (.bool true) e1 else b e1 Q := rfl
@[simp] theorem r_not : wNot a e Q = a e fun x e1 => ∃ c, x = .bool c ∧ Q (.bool (!c)) e1 := rfl
@[simp] theorem r_ife : wIfE t a b e Q = t e fun c e1 => if c = true then a e1 Q else b e1 Q := rfl
@[simp] theorem r_chain {f g : D → D → Option D} : wChain f g a b c e Q = a e fun x e1 => b e1 fun y e2 => ∃ k, f x y = some (.bool k) ∧ if k = true then c e2 fun z e3 => ∃ r, g y z = some r ∧ Q r e3 else Q (.bool false) e2 := rfl
@[simp] theorem r_snil : wNil W e = W.nx e := rfl
@[simp] theorem r_seq : wSeq p q W e = p { W with nx := fun e1 => q W e1 } e := rfl
@[simp] theorem r_asg : wAsg i a W e = a e fun x e1 => W.nx (e1.set i (some x)) := rfl
@[simp] theorem r_asgp : wAsgP i a W e = a e fun d e1 => ∃ x y z : Int, d = .list [.int x, .int y, .int z] ∧ W.nx (e1.set i (some .none)) := rfl
@[simp] theorem r_asgg : wAsgG g a W e = a e fun x e1 => ∃ e2, g x e1 = some e2 ∧ W.nx e2 := rfl
@[simp] theorem r_expr : wExpr a W e = a e fun _ e1 => W.nx e1 := rfl
@[simp] theorem r_ret : wRet a W e = a e W.rt := rfl
@[simp] theorem r_retn : wRetN W e = W.rt .none e := rfl
@[simp] theorem r_if : wIf t p q W e = t e fun c e1 => if c = true then p W e1 else q W e1 := rfl
@[simp] theorem r_brk : wBreak W e = W.bk e := rfl
@[simp] theorem r_cnt : wCont W e = W.ct e := rfl
@[simp] theorem r_for : wFor it g p W e = it e fun xs e1 => forL g p W xs e1 := rfl
@[simp] theorem r_gn : gN i x e = some (e.set i (some x)) := rfl
@[simp] theorem r_gt {gs : List WG} {xs : List D} : gT gs (.tuple xs) e = gAll gs xs e := rfl
@[simp] theorem r_gnil : gAll [] [] e = some e := rfl
@[simp] theorem r_gcons {gs : List WG} {xs : List D} : gAll (g :: gs) (x :: xs) e = (g x e).bind fun e1 => gAll gs xs e1 := rfl
@[simp] theorem r_iseq {QI : List D → En → Prop} : wiSeq a e QI = a e fun x e1 => ∃ xs, seqD x = some xs ∧ QI xs e1 := rfl
@[simp] theorem r_irg1 {QI : List D → En → Prop} : wiRg1 a e QI = a e fun x e1 => ∃ n : Int, x = .int n ∧ -(lim : Int) ≤ n ∧ n ≤ (lim : Int) ∧ QI (rangeD 0 n) e1 := rfl
@[simp] theorem r_irg2 {QI : List D → En → Prop} : wiRg2 a b e QI = a e fun x e1 => b e1 fun y e2 => ∃ m n : Int, x = .int m ∧ y = .int n ∧ -(lim : Int) ≤ m ∧ m ≤ lim ∧ -(lim : Int) ≤ n ∧ n ≤ (lim : Int) ∧ QI (rangeD m n) e2 := rfl
@[simp] theorem r_izip {QI : List D → En → Prop} : wiZip2 a b e QI = a e fun x e1 => b e1 fun y e2 => ∃ xs ys, sameK x y = true ∧ seqD x = some xs ∧ seqD y = some ys ∧ QI (zipD xs ys) e2 := rfl
@[simp] theorem r_mut {F : List D → List D → Option (D × List D)} : wMut i F r e Q = ((∃ xs, e[i]? = some (some (.list xs))) ∧ r e fun ys e1 => ∃ xs z xs', e1[i]? = some (some (.list xs)) ∧ F xs ys = some (z, xs') ∧ Q z (e1.set i (some (.list xs')))) := rfl
@[simp] theorem r_setix : wSetIx i a b W e = a e fun y e1 => (∃ xs, e1[i]? = some (some (.list xs))) ∧ b e1 fun j e2 => ∃ k xs m, j = .int k ∧ e2[i]? = some (some (.list xs)) ∧ ixN xs.length k = some m ∧ W.nx (e2.set i (some (.list (xs.set m y)))) := rfl
@[simp] theorem r_plix : wPlIx i e Q = (e[i]? = some (some .none) ∧ ∀ x : Int, Q (.int x) e) := rfl
@[simp] theorem r_plset : wPlSet i a W e = a e fun d e1 => ∃ y : Int, d = .int y ∧ e1[i]? = some (some .none) ∧ W.nx e1 := rfl
@[simp] theorem r_np : wNp a e Q = a e fun d e1 => ∃ x y z : Int, d = .list [.int x, .int y, .int z] ∧ Q .none e1 := rfl
@[simp] theorem r_lstrg : wLstRg it e Q = it e fun xs e1 => Q (.list xs) e1 := rfl
theorem r_comp {vs : List Nat} : wComp it g vs t b e Q = it e fun xs e1 => compL g vs t b (fun acc e2 => Q (.list acc) (back e1 e2 vs)) xs [] (wp e1 vs) := rfl
@[simp] theorem r_never : wNever W e = False := rfl
@[simp] theorem seqD_l {xs : List D} : seqD (.list xs) = some xs := rfl
@[simp] theorem seqD_t {xs : List D} : seqD (.tuple xs) = some xs := rfl
end
@[simp] theorem addD_i (a b : Int) : addD (.int a) (.int b) = some (.int (a + b)) := rfl
@[simp] theorem subD_i (a b : Int) : subD (.int a) (.int b) = some (.int (a - b)) := rfl
@[simp] theorem leD_i (a b : Int) : leD (.int a) (.int b) = some (.bool (decide (a ≤ b))) := rfl
@[simp] theorem gtD_i (a b : Int) : gtD (.int a) (.int b) = some (.bool (decide (b < a))) := rfl
@[simp] theorem geD_i (a b : Int) : geD (.int a) (.int b) = some (.bool (decide (b ≤ a))) := rfl
@[simp] theorem ltD_i (a b : Int) : ltD (.int a) (.int b) = some (.bool (decide (a < b))) := rfl
@[simp] theorem negD_i (a : Int) : negD (.int a) = some (.int (-a)) := rfl
@[simp] theorem modD_i {a b : Int} (h : 0 < b) : modD (.int a) (.int b) = some (.int (a % b)) := by simp [modD, h]
@[simp] theorem fdivD_i {a b : Int} (h : 0 < b) (h' : b < 1073741824) : fdivD (.int a) (.int b) = some (.int (a / b)) := by simp [fdivD, h, h']
theorem mulID_i {a b : Int} (h : okMul a b = true) : mulID (.int a) (.int b) = some (.int (a * b)) := by simp [mulID, h]
theorem okMul_l {a b : Int} (h : -18446744073709551616 < a) (h' : a < 18446744073709551616) : okMul a b = true := by simp [okMul]; omega
theorem okMul_r {a b : Int} (h : -18446744073709551616 < b) (h' : b < 18446744073709551616) : okMul a b = true := by simp [okMul]; omega
@[simp] theorem okD_i (a : Int) : okD (.int a) = true := by simp [okD, SeqAt.shaped, PyData.canLay0, PyData.depth]
@[simp] theorem okD_b (a : Bool) : okD (.bool a) = true := by simp [okD, SeqAt.shaped, PyData.canLay0, PyData.depth]
@[simp] theorem okD_n : okD .none = true := by simp [okD, SeqAt.shaped, PyData.canLay0, PyData.depth]
@[simp] theorem eqv_ii (a b : Int) : PyData.eqv (.int a) (.int b) = decide (a = b) := by simp only [PyData.eqv]; exact Bool.beq_eq_decide_eq a b
@[simp] theorem eqv_bb (a b : Bool) : PyData.eqv (.bool a) (.bool b) = (a == b) := by simp only [PyData.eqv]
@[simp] theorem eqD_i (a b : Int) : eqD (.int a) (.int b) = some (.bool (decide (a = b))) := by simp [eqD]
@[simp] theorem neD_i (a b : Int) : neD (.int a) (.int b) = some (.bool (!decide (a = b))) := by simp [neD]
@[simp] theorem eqD_b (a b : Bool) : eqD (.bool a) (.bool b) = some (.bool (a == b)) := by simp [eqD]
@[simp] theorem neD_b (a b : Bool) : neD (.bool a) (.bool b) = some (.bool (!(a == b))) := by simp [neD]
@[simp] theorem isD_n (x : D) : isD x .none = isNoneD x := by cases x <;> rfl
@[simp] theorem isNotD_n (x : D) : isNotD x .none = notNoneD x := by cases x <;> rfl
@[simp] theorem lenD_l (xs : List D) : lenD [.list xs] = some (.int xs.length) := rfl
@[simp] theorem lenD_t (xs : List D) : lenD [.tuple xs] = some (.int xs.length) := rfl
@[simp] theorem tupD_l (xs : List D) : tupD [.list xs] = some (.tuple xs) := rfl
@[simp] theorem tupD_t (xs : List D) : tupD [.tuple xs] = some (.tuple xs) := rfl
@[simp] theorem lstD_l (xs : List D) : lstD [.list xs] = some (.list xs) := rfl
@[simp] theorem lstD_t (xs : List D) : lstD [.tuple xs] = some (.list xs) := rfl
@[simp] theorem max2D_i (a b : Int) : max2D [.int a, .int b] = some (.int (if b > a then b else a)) := rfl
@[simp] theorem min2D_i (a b : Int) : min2D [.int a, .int b] = some (.int (if b < a then b else a)) := rfl
@[simp] theorem intD_b (b : Bool) : intD [.bool b] = some (.int (if b then 1 else 0)) := rfl
@[simp] theorem intD_i (b : Int) : intD [.int b] = some (.int b) := rfl
@[simp] theorem intsD_map (ns : List Int) : intsD (ns.map PyData.int) = some ns := by
  induction ns with
  | nil => rfl
  | cons n ns ih => simp [intsD, ih]
@[simp] theorem boolsD_map (ns : List Bool) : boolsD (ns.map PyData.bool) = some ns := by
  induction ns with
  | nil => rfl
  | cons n ns ih => simp [boolsD, ih]
@[simp] theorem sortedD_i (ns : List Int) : sortedD [.list (ns.map .int)] = some (.list ((isort ns).map .int)) := by simp [sortedD]
@[simp] theorem sortedAD_i (ns : List Int) : sortedAD [.list (ns.map .int)] = some (.list ((isort ns).map .int)) := by simp [sortedAD]
theorem pairsD_dP : ∀ ps : List (Int × Int), pairsD (ps.map dP) = some ps
  | [] => rfl
  | p :: ps => by simp [pairsD, dP, pairsD_dP ps]
@[simp] theorem sortedAD_p (ps : List (Int × Int)) : sortedAD [.list (ps.map dP)] = some (.list ((psort ps).map dP)) := by
  cases ps with
  | nil => rfl
  | cons p ps =>
    have h : intsD ((p :: ps).map dP) = none := by simp [intsD, dP]
    have h2 := pairsD_dP (p :: ps)
    simp only [sortedAD, h, h2, Option.map_some]
@[simp] theorem allD_b (ns : List Bool) : allD [.list (ns.map .bool)] = some (.bool (ns.all id)) := by simp [allD]
@[simp] theorem anyD_b (ns : List Bool) : anyD [.list (ns.map .bool)] = some (.bool (ns.any id)) := by simp [anyD]
theorem ixD_l {xs : List D} {i : Nat} {x : D} (h : xs[i]? = some x) : ixD (.list xs) (.int (i : Int)) = some x := by
  have hi := (List.getElem?_eq_some_iff.mp h).1
  have : ixN xs.length (i : Int) = some i := by simp [ixN, hi]
  simp [ixD, this, h]
theorem ixD_t {xs : List D} {i : Nat} {x : D} (h : xs[i]? = some x) : ixD (.tuple xs) (.int (i : Int)) = some x := by
  have hi := (List.getElem?_eq_some_iff.mp h).1
  have : ixN xs.length (i : Int) = some i := by simp [ixN, hi]
  simp [ixD, this, h]
@[simp] theorem ixD_t0 (x : D) (xs : List D) : ixD (.tuple (x :: xs)) (.int 0) = some x := ixD_t (i := 0) rfl
@[simp] theorem ixD_t1 (x y : D) (xs : List D) : ixD (.tuple (x :: y :: xs)) (.int 1) = some y := ixD_t (i := 1) rfl
@[simp] theorem ixD_t2 (x y z : D) (xs : List D) : ixD (.tuple (x :: y :: z :: xs)) (.int 2) = some z := ixD_t (i := 2) rfl
@[simp] theorem ixD_l0 (x : D) (xs : List D) : ixD (.list (x :: xs)) (.int 0) = some x := ixD_l (i := 0) rfl
@[simp] theorem ixD_l1 (x y : D) (xs : List D) : ixD (.list (x :: y :: xs)) (.int 1) = some y := ixD_l (i := 1) rfl
@[simp] theorem wp_nil (e : En) : wp e [] = e := rfl
@[simp] theorem wp_cons (e : En) (v : Nat) (vs : List Nat) : wp e (v :: vs) = (wp e vs).set v none := rfl
@[simp] theorem back_nil (e e2 : En) : back e e2 [] = e2 := rfl
@[simp] theorem back_cons (e e2 : En) (v : Nat) (vs : List Nat) : back e e2 (v :: vs) = (back e e2 vs).set v ((e[v]?).getD none) := rfl
@[simp] theorem lim_val : lim = 1000000 := rfl
/-- a truth given: what is asked of it -/
@[simp] theorem ex_bl {x : Bool} {R : Bool → Prop} : (∃ b, PyData.bool x = PyData.bool b ∧ R b) = R x := by
  apply propext
  constructor
  · rintro ⟨b, e, r⟩; cases e; exact r
  · intro r; exact ⟨x, rfl, r⟩
theorem appendF_ok {xs : List D} {y : D} (h : xs.length < 1000000) : appendF xs [y] = some (.none, xs ++ [y]) := by simp [appendF, h]
theorem extendF_ok {xs ys : List D} (h : xs.length + ys.length ≤ 1000000) : extendF xs [.list ys] = some (.none, xs ++ ys) := by simp [extendF, h]
theorem popAtF_ok {xs : List D} {y : D} {i : Nat} (h : xs[i]? = some y) : popAtF xs [.int (i : Int)] = some (y, xs.eraseIdx i) := by
  obtain ⟨hi, he⟩ := List.getElem?_eq_some_iff.mp h
  simp [popAtF, ixN, hi, he]
theorem addLD_ok {xs ys : List D} (h : xs.length + ys.length ≤ 1000000) : addLD (.list xs) (.list ys) = some (.list (xs ++ ys)) := by simp [addLD, h]
theorem addD_l {xs ys : List D} (h : xs.length + ys.length ≤ 1000000) : addD (.list xs) (.list ys) = some (.list (xs ++ ys)) := by simp [addD, h]
theorem addD_t {xs ys : List D} (h : xs.length + ys.length ≤ 1000000) : addD (.tuple xs) (.tuple ys) = some (.tuple (xs ++ ys)) := by simp [addD, h]
/-- data of whole numbers and truths at most k deep -/
def lay (k : Nat) (d : D) : Prop := d.canLay0 = true ∧ d.depth ≤ k
theorem lay_ok {k : Nat} {d : D} (h : lay k d) (hk : k ≤ 64 := by decide) : okD d = true := by
  simp only [okD, SeqAt.shaped, Bool.and_eq_true, decide_eq_true_eq]
  exact ⟨h.1, Nat.le_trans h.2 hk⟩
theorem lay_int (i : Int) {k : Nat} : lay k (.int i) := by simp [lay, PyData.canLay0, PyData.depth]
theorem lay_all {k : Nat} : ∀ {ds : List D}, (∀ d ∈ ds, lay k d) → PyData.canLayAll0 ds = true ∧ PyData.depthAll ds ≤ k
  | [], _ => by simp [PyData.canLayAll0, PyData.depthAll]
  | d :: ds, h => by
    obtain ⟨h1, h2⟩ := lay_all (ds := ds) fun x hx => h x (List.mem_cons_of_mem _ hx)
    obtain ⟨h3, h4⟩ := h d (List.mem_cons_self)
    simp only [PyData.canLayAll0, PyData.depthAll, h1, h3, Bool.and_self, true_and]
    omega
theorem lay_tup {k : Nat} {ds : List D} (h : ∀ d ∈ ds, lay k d) : lay (k + 1) (.tuple ds) := by
  obtain ⟨h1, h2⟩ := lay_all h
  exact ⟨by simpa [PyData.canLay0] using h1, by simp [PyData.depth]; omega⟩
theorem lay_lst {k : Nat} {ds : List D} (h : ∀ d ∈ ds, lay k d) : lay (k + 1) (.list ds) := by
  obtain ⟨h1, h2⟩ := lay_all h
  exact ⟨by simpa [PyData.canLay0] using h1, by simp [PyData.depth]; omega⟩
theorem lay_ints (ns : List Int) {k : Nat} : ∀ d ∈ ns.map PyData.int, lay k d := fun d hd => by
  obtain ⟨n, _, rfl⟩ := List.mem_map.mp hd
  exact lay_int n
theorem eqvAll_map {α : Type} [DecidableEq α] (f : α → D) (h : ∀ a b, PyData.eqv (f a) (f b) = decide (a = b)) : ∀ xs ys : List α, PyData.eqvAll (xs.map f) (ys.map f) = decide (xs = ys)
  | [], [] => by simp [PyData.eqvAll]
  | [], _ :: _ => by simp [PyData.eqvAll]
  | _ :: _, [] => by simp [PyData.eqvAll]
  | x :: xs, y :: ys => by
    simp only [List.map_cons, PyData.eqvAll, h, eqvAll_map f h xs ys, List.cons.injEq]
    by_cases h1 : x = y <;> by_cases h2 : xs = ys <;> simp [h1, h2]
theorem eqv_tup {α : Type} [DecidableEq α] {f : α → D} (h : ∀ a b, PyData.eqv (f a) (f b) = decide (a = b)) (xs ys : List α) : PyData.eqv (.tuple (xs.map f)) (.tuple (ys.map f)) = decide (xs = ys) := by
  simp only [PyData.eqv]; exact eqvAll_map f h xs ys
theorem eqv_lst {α : Type} [DecidableEq α] {f : α → D} (h : ∀ a b, PyData.eqv (f a) (f b) = decide (a = b)) (xs ys : List α) : PyData.eqv (.list (xs.map f)) (.list (ys.map f)) = decide (xs = ys) := by
  simp only [PyData.eqv]; exact eqvAll_map f h xs ys
theorem eqv_dP (p q : Int × Int) : PyData.eqv (dP p) (dP q) = decide (p = q) := by
  obtain ⟨a, b⟩ := p; obtain ⟨c, d⟩ := q
  simp only [dP, PyData.eqv, PyData.eqvAll, eqv_ii, Prod.mk.injEq, Bool.and_true]
  by_cases h1 : a = c <;> by_cases h2 : b = d <;> simp [h1, h2]
theorem lay_dP (p : Int × Int) : lay 1 (dP p) := lay_tup fun d hd => by
  simp at hd; rcases hd with rfl | rfl <;> exact lay_int _
theorem any_map' {α : Type} [DecidableEq α] {f : α → D} (h : ∀ a b, PyData.eqv (f a) (f b) = decide (a = b)) (xs : List α) (x : α) : ((xs.map f).any fun z => PyData.eqv z (f x)) = decide (x ∈ xs) := by
  induction xs with
  | nil => simp
  | cons y ys ih =>
    simp only [List.map_cons, List.any_cons, h, ih, List.mem_cons]
    by_cases h1 : y = x
    · simp [h1]
    · have : ¬ x = y := fun z => h1 z.symm
      simp [h1, this]
theorem any_map {α : Type} [DecidableEq α] {f : α → D} (h : ∀ a b, PyData.eqv (f a) (f b) = decide (a = b)) (xs : List α) (x : α) [Decidable (x ∈ xs)] : ((xs.map f).any fun z => PyData.eqv z (f x)) = decide (x ∈ xs) := by
  rw [any_map' h]; exact decide_eq_decide.mpr Iff.rfl
theorem inD_pair (p a b : Int) : inD (.int p) (.tuple [.int a, .int b]) = some (.bool (decide (p = a) || decide (p = b))) := by
  have h : okD (.tuple [.int a, .int b]) = true := lay_ok (k := 1) (lay_tup fun d hd => by simp at hd; rcases hd with rfl | rfl <;> exact lay_int _)
  simp only [inD, seqD_t, okD_i, h, and_self, if_true, List.any_cons, List.any_nil, eqv_ii, Bool.or_false]
  congr 3 <;> exact decide_eq_decide.mpr eq_comm
theorem lay_map {α : Type} {k : Nat} {f : α → D} (h : ∀ a, lay k (f a)) (xs : List α) : ∀ d ∈ xs.map f, lay k d := fun d hd => by
  obtain ⟨a, _, rfl⟩ := List.mem_map.mp hd
  exact h a
theorem inD_l {α : Type} [DecidableEq α] {k : Nat} {f : α → D} (h : ∀ a b, PyData.eqv (f a) (f b) = decide (a = b)) (hl : ∀ a, lay k (f a)) (x : α) (xs : List α) (hk : k + 1 ≤ 64 := by decide) [Decidable (x ∈ xs)] : inD (f x) (.list (xs.map f)) = some (.bool (decide (x ∈ xs))) := by
  simp only [inD, seqD_l, lay_ok (hl x) (by omega), lay_ok (lay_lst (lay_map hl xs)) hk, and_self, if_true, any_map h]
theorem inD_t {α : Type} [DecidableEq α] {k : Nat} {f : α → D} (h : ∀ a b, PyData.eqv (f a) (f b) = decide (a = b)) (hl : ∀ a, lay k (f a)) (x : α) (xs : List α) (hk : k + 1 ≤ 64 := by decide) [Decidable (x ∈ xs)] : inD (f x) (.tuple (xs.map f)) = some (.bool (decide (x ∈ xs))) := by
  simp only [inD, seqD_t, lay_ok (hl x) (by omega), lay_ok (lay_tup (lay_map hl xs)) hk, and_self, if_true, any_map h]
theorem notInD_l {α : Type} [DecidableEq α] {k : Nat} {f : α → D} (h : ∀ a b, PyData.eqv (f a) (f b) = decide (a = b)) (hl : ∀ a, lay k (f a)) (x : α) (xs : List α) (hk : k + 1 ≤ 64 := by decide) [Decidable (x ∈ xs)] : notInD (f x) (.list (xs.map f)) = some (.bool (!decide (x ∈ xs))) := by
  simp only [notInD, seqD_l, lay_ok (hl x) (by omega), lay_ok (lay_lst (lay_map hl xs)) hk, and_self, if_true, any_map h]
theorem notInD_t {α : Type} [DecidableEq α] {k : Nat} {f : α → D} (h : ∀ a b, PyData.eqv (f a) (f b) = decide (a = b)) (hl : ∀ a, lay k (f a)) (x : α) (xs : List α) (hk : k + 1 ≤ 64 := by decide) [Decidable (x ∈ xs)] : notInD (f x) (.tuple (xs.map f)) = some (.bool (!decide (x ∈ xs))) := by
  simp only [notInD, seqD_t, lay_ok (hl x) (by omega), lay_ok (lay_tup (lay_map hl xs)) hk, and_self, if_true, any_map h]
theorem eqD_lay {k : Nat} {x y : D} (hx : lay k x) (hy : lay k y) (hk : k ≤ 64 := by decide) : eqD x y = some (.bool (PyData.eqv x y)) := by
  simp [eqD, lay_ok hx hk, lay_ok hy hk]
theorem neD_lay {k : Nat} {x y : D} (hx : lay k x) (hy : lay k y) (hk : k ≤ 64 := by decide) : neD x y = some (.bool (!PyData.eqv x y)) := by
  simp [neD, lay_ok hx hk, lay_ok hy hk]
/-- one statement, then the rest: what is known between them -/
theorem seq_cut {p q : WS} {W : WD} {e : En} (P : En → Prop) (h : ∀ R : En → Prop, (∀ e1, P e1 → R e1) → p { W with nx := R } e) (k : ∀ e1, P e1 → q W e1) : wSeq p q W e := h _ k
theorem forL_inv {g : WG} {b : WS} {W : WD} {xs : List D} (Inv : Nat → En → Prop) {e : En} (h0 : Inv 0 e)
    (hs : ∀ i e x R, xs[i]? = some x → Inv i e → (∀ e', Inv (i + 1) e' → R e') → ∃ e1, g x e = some e1 ∧ b { W with nx := R, ct := R, bk := W.nx } e1) (hend : ∀ e, Inv xs.length e → W.nx e) : forL g b W xs e := by
  have key : ∀ (ys : List D) (i : Nat) (e : En), xs.drop i = ys → i ≤ xs.length → Inv i e → forL g b W ys e := by
    intro ys
    induction ys with
    | nil =>
      intro i e hd hi h
      have : i = xs.length := by
        have := congrArg List.length hd
        simp at this; omega
      subst this
      exact hend e h
    | cons y ys ih =>
      intro i e hd hi h
      have hlt : i < xs.length := by
        have := congrArg List.length hd
        simp at this; omega
      have hx : xs[i]? = some y := by
        have : (xs.drop i)[0]? = some y := by rw [hd]; rfl
        rwa [List.getElem?_drop, Nat.add_zero] at this
      have hd' : xs.drop (i + 1) = ys := by
        rw [← List.drop_drop, hd]; rfl
      exact hs i e y _ hx h fun e' h' => ih (i + 1) e' hd' hlt h'
  exact key xs 0 e rfl (Nat.zero_le _) h0
theorem whileN_inv {t : WT} {b : WS} {W : WD} (Inv : En → Prop) (μ : En → Nat)
    (hs : ∀ e R, Inv e → (∀ e', Inv e' → μ e' < μ e → R e') → t e fun c e1 => if c = true then b { W with nx := R, ct := R, bk := W.nx } e1 else W.nx e1) {e : En} (h0 : Inv e) : wWhile t b W e := by
  have key : ∀ n e, Inv e → μ e < n → whileN t b W n e := by
    intro n
    induction n with
    | zero => intro e _ h; exact absurd h (Nat.not_lt_zero _)
    | succ n ih => intro e h hm; exact hs e _ h fun e' h' hm' => ih e' h' (by omega)
  exact ⟨μ e + 1, key _ e h0 (Nat.lt_succ_self _)⟩
theorem compL_map {α : Type} {g : WG} {vs : List Nat} {t : WT} {b : WE} {Q : List D → En → Prop} {e : En} {h : α → D} {xs : List α} {acc : List D} (p : α → Bool) (f : α → D)
    (hs : ∀ x ∈ xs, ∃ e1, g (h x) e = some e1 ∧ (∀ R, R (p x) e1 → t e1 R) ∧ (p x = true → ∀ R, R (f x) e1 → b e1 R) ∧ wp e1 vs = e) (hq : Q (acc ++ (xs.filter p).map f) e) : compL g vs t b Q (xs.map h) acc e := by
  induction xs generalizing acc with
  | nil => simp at hq; exact hq
  | cons x xs ih =>
    obtain ⟨e1, h1, h2, h3, h4⟩ := hs x (by simp)
    refine ⟨e1, h1, h2 _ ?_⟩
    cases hp : p x with
    | true =>
      rw [if_pos rfl]
      refine h3 hp _ ?_
      rw [h4]
      exact ih (fun y hy => hs y (by simp [hy])) (by simpa [hp] using hq)
    | false =>
      rw [if_neg (by simp), h4]
      exact ih (fun y hy => hs y (by simp [hy])) (by simpa [hp] using hq)
/-- a comprehension by an invariant of what has been made -/
theorem compL_inv {g : WG} {vs : List Nat} {t : WT} {b : WE} {Q : List D → En → Prop} {xs : List D} (Inv : Nat → List D → En → Prop) {e : En} (h0 : Inv 0 [] e)
    (hs : ∀ i x acc e, xs[i]? = some x → Inv i acc e → ∃ e1, g x e = some e1 ∧ ∀ (R : List D → En → Prop), (∀ acc' e', Inv (i + 1) acc' e' → R acc' e') → t e1 fun c e2 => if c = true then b e2 fun y e3 => R (acc ++ [y]) (wp e3 vs) else R acc (wp e2 vs)) (hq : ∀ acc e, Inv xs.length acc e → Q acc e) : compL g vs t b Q xs [] e := by
  have key : ∀ (ys : List D) (i : Nat) (acc : List D) (e : En), xs.drop i = ys → i ≤ xs.length → Inv i acc e → compL g vs t b Q ys acc e := by
    intro ys
    induction ys with
    | nil =>
      intro i acc e hd hi h
      have : i = xs.length := by
        have := congrArg List.length hd
        simp at this; omega
      subst this
      exact hq acc e h
    | cons y ys ih =>
      intro i acc e hd hi h
      have hlt : i < xs.length := by
        have := congrArg List.length hd
        simp at this; omega
      have hx : xs[i]? = some y := by
        have : (xs.drop i)[0]? = some y := by rw [hd]; rfl
        rwa [List.getElem?_drop, Nat.add_zero] at this
      have hd' : xs.drop (i + 1) = ys := by
        rw [← List.drop_drop, hd]; rfl
      obtain ⟨e1, h1, h2⟩ := hs i y acc e hx h
      exact ⟨e1, h1, h2 _ fun acc' e' h' => ih (i + 1) acc' e' hd' hlt h'⟩
  exact key xs 0 [] e rfl (Nat.zero_le _) h0
def irng (lo hi : Int) : List Int := (List.range (hi - lo).toNat).map fun (i : Nat) => lo + (i : Int)
theorem rangeD_ints (lo hi : Int) : rangeD lo hi = (irng lo hi).map .int := by
  unfold rangeD irng; rw [List.map_map]; rfl
theorem mem_ints {lo hi i : Int} : i ∈ irng lo hi ↔ lo ≤ i ∧ i < hi := by
  unfold irng
  constructor
  · intro h
    obtain ⟨k, hk, rfl⟩ := List.mem_map.mp h
    have := List.mem_range.mp hk
    omega
  · intro h
    exact List.mem_map.mpr ⟨(i - lo).toNat, List.mem_range.mpr (by omega), by omega⟩
theorem ints_len (lo hi : Int) : (irng lo hi).length = (hi - lo).toNat := by simp [irng]
theorem ints_get {lo hi : Int} {k : Nat} (h : k < (hi - lo).toNat) : (irng lo hi)[k]? = some (lo + (k : Int)) := by
  unfold irng
  rw [List.getElem?_map, List.getElem?_range h]; rfl
theorem ints_sorted (lo hi : Int) : (irng lo hi).Pairwise (· < ·) := by
  unfold irng
  rw [List.pairwise_map]
  exact (List.pairwise_lt_range).imp fun h => by omega
end G7

set_option maxRecDepth 100000
namespace G7
open PySem PySem.Spec PyProof.Rows L2
end G7

set_option maxRecDepth 100000
namespace G7
open PySem PySem.Spec PyProof.Rows L2
def wDisp1 (a b : WE) : WE := fun e Q => a e fun x e1 => b e1 fun y e2 => (∃ k, keyOf x = some k) ∧ Q (.dict [(x, y)]) e2
def wLstZip (a b : WE) : WE := fun e Q => a e fun x e1 => b e1 fun y e2 => ∃ xs ys, seqD x = some xs ∧ seqD y = some ys ∧ Q (.list (zipD xs ys)) e2
end G7

set_option maxRecDepth 100000
namespace G7
open PySem PySem.Spec PyProof.Rows L2
end G7

set_option maxRecDepth 100000
namespace G7
open PySem PySem.Spec PyProof.Rows L2
/-- the items of t[lo:hi:-1] -/
def pickR {α : Type} (xs : List α) (lo hi : Option Int) : List α :=
  (List.range (Builtin.Slice.slicePlaces (Builtin.Slice.sliceAdjust lo hi (-1) xs.length).1 (Builtin.Slice.sliceAdjust lo hi (-1) xs.length).2 (-1))).filterMap fun (k : Nat) => xs[((Builtin.Slice.sliceAdjust lo hi (-1) xs.length).1 + (k : Int) * (-1)).toNat]?
section
variable {X : Cx}
variable {κ : List SK} {M : List Nat} {k : RK} {w : WE} {e : Expr}
def revTD : D → Option Int → Option Int → Option D
  | .tuple xs, lo, hi => some (.tuple (pickR xs lo hi))
  | .dict [(.none, .tuple xs)], lo, hi => some (.tuple (pickR xs lo hi))
  | _, _, _ => none
end
theorem pickR_all {α : Type} (xs : List α) : pickR xs none none = xs.reverse := by
  unfold pickR
  have e1 : Builtin.Slice.sliceAdjust none none (-1) xs.length = ((xs.length : Int) - 1, -1) := by simp [Builtin.Slice.sliceAdjust]
  rw [e1]
  have e2 : Builtin.Slice.slicePlaces ((xs.length : Int) - 1) (-1) (-1) = xs.length := by
    unfold Builtin.Slice.slicePlaces
    simp
    split <;> omega
  simp only [e2]
  refine List.ext_getElem? fun i => ?_
  have : ∀ n : Nat, n ≤ xs.length → ((List.range n).filterMap fun (k : Nat) => xs[((xs.length : Int) - 1 + (k : Int) * (-1)).toNat]?) = (xs.reverse.take n) := by
    intro n
    induction n with
    | zero => intro _; rfl
    | succ n ih =>
      intro h
      rw [List.range_succ, List.filterMap_append, ih (by omega)]
      have hi : n < xs.reverse.length := by rw [List.length_reverse]; omega
      rw [List.take_succ_eq_append_getElem hi]
      congr 1
      have : ((xs.length : Int) - 1 + (n : Int) * (-1)).toNat = xs.length - 1 - n := by omega
      simp only [List.filterMap_cons, List.filterMap_nil, this]
      rw [List.getElem?_eq_getElem (by omega), List.getElem_reverse]
  rw [this xs.length (Nat.le_refl _), List.take_of_length_le (by rw [List.length_reverse]; exact Nat.le_refl _)]
theorem revT_m {α : Type} {f : α → D} {l : List α} : revTD (.tuple (l.map f)) none none = some (.tuple (l.reverse.map f)) := by
  simp only [revTD, pickR_all, List.map_reverse]
end G7

namespace G7
open PySem

section
variable {e : En} {i j : Nat} {d x y : D} {Q : D → En → Prop} {QT : Bool → En → Prop} {QA : List D → En → Prop} {QO : Option Int → En → Prop} {QI : List D → En → Prop}
  {nx bk ct : En → Prop} {rt : D → En → Prop} {a b c : WE} {r : WA} {s t : WT} {f h : D → D → Option D} {f1 : D → Option D} {fl : List D → Option D} {S : FS} {g : WG} {lo hi : WO} {p q : WS} {it : WI}
theorem i_seq (k : p ⟨fun e1 => q ⟨nx, rt, bk, ct⟩ e1, rt, bk, ct⟩ e) : wSeq p q ⟨nx, rt, bk, ct⟩ e := k
theorem i_asg (k : a e fun x e1 => nx (e1.set i (some x))) : wAsg i a ⟨nx, rt, bk, ct⟩ e := k
theorem i_asgG (k : a e fun x e1 => ∃ e2, g x e1 = some e2 ∧ nx e2) : wAsgG g a ⟨nx, rt, bk, ct⟩ e := k
theorem i_asgP (k : a e fun d e1 => ∃ x y z : Int, d = .list [.int x, .int y, .int z] ∧ nx (e1.set i (some .none))) : wAsgP i a ⟨nx, rt, bk, ct⟩ e := k
theorem i_expr (k : a e fun _ e1 => nx e1) : wExpr a ⟨nx, rt, bk, ct⟩ e := k
theorem i_ret (k : a e rt) : wRet a ⟨nx, rt, bk, ct⟩ e := k
theorem i_retN (k : rt .none e) : wRetN ⟨nx, rt, bk, ct⟩ e := k
theorem i_if (k : t e fun c e1 => if c = true then p ⟨nx, rt, bk, ct⟩ e1 else q ⟨nx, rt, bk, ct⟩ e1) : wIf t p q ⟨nx, rt, bk, ct⟩ e := k
theorem i_nil (k : nx e) : wNil ⟨nx, rt, bk, ct⟩ e := k
theorem i_brk (k : bk e) : wBreak ⟨nx, rt, bk, ct⟩ e := k
theorem i_cnt (k : ct e) : wCont ⟨nx, rt, bk, ct⟩ e := k
theorem i_for (k : it e fun xs e1 => forL g p ⟨nx, rt, bk, ct⟩ xs e1) : wFor it g p ⟨nx, rt, bk, ct⟩ e := k
theorem i_var (h : e[i]? = some (some d)) (k : Q d e) : wVar i e Q := ⟨d, h, k⟩
theorem i_c (k : Q d e) : wC d e Q := k
theorem i_op1 (k : a e fun x e1 => ∃ z, f1 x = some z ∧ Q z e1) : wOp1 f1 a e Q := k
theorem i_op2 (k : a e fun x e1 => b e1 fun y e2 => ∃ z, f x y = some z ∧ Q z e2) : wOp2 f a b e Q := k
theorem i_anil (k : QA [] e) : waNil e QA := k
theorem i_acons (k : a e fun x e1 => r e1 fun xs e2 => QA (x :: xs) e2) : waCons a r e QA := k
theorem i_list (k : r e fun xs e1 => xs.length ≤ 1000000 ∧ Q (.list xs) e1) : wList r e Q := k
theorem i_tup (k : r e fun xs e1 => xs.length ≤ 1000000 ∧ Q (.tuple xs) e1) : wTup r e Q := k
theorem i_call (k : r e fun xs e1 => S xs fun r => Q r e1) : wCall S r e Q := k
theorem i_blt (k : r e fun xs e1 => ∃ z, fl xs = some z ∧ Q z e1) : wBlt fl r e Q := k
theorem i_on (k : QO none e) : woN e QO := k
theorem i_os (k : a e fun x e1 => ∃ i, x = .int i ∧ QO (some i) e1) : woS a e QO := k
theorem i_sl {h : D → Option Int → Option Int → Option D} (k : a e fun x e1 => lo e1 fun l e2 => hi e2 fun u e3 => ∃ z, h x l u = some z ∧ Q z e3) : wSl h a lo hi e Q := k
theorem i_val (k : a e fun x e1 => ∃ b, x = .bool b ∧ QT b e1) : tVal a e QT := k
theorem i_tand (k : s e fun b e1 => if b = true then t e1 QT else QT false e1) : tAnd s t e QT := k
theorem i_tor (k : s e fun b e1 => if b = true then QT true e1 else t e1 QT) : tOr s t e QT := k
theorem i_tnot (k : s e fun b e1 => QT (!b) e1) : tNot s e QT := k
theorem i_yes (k : QT true e) : G7.tYes e QT := k
theorem i_and (k : a e fun x e1 => ∃ c, x = .bool c ∧ if c = true then b e1 Q else Q (.bool false) e1) : wAnd a b e Q := k
theorem i_or (k : a e fun x e1 => ∃ c, x = .bool c ∧ if c = true then Q (.bool true) e1 else b e1 Q) : wOr a b e Q := k
theorem i_not (k : a e fun x e1 => ∃ c, x = .bool c ∧ Q (.bool (!c)) e1) : wNot a e Q := k
theorem i_ife (k : t e fun c e1 => if c = true then a e1 Q else b e1 Q) : wIfE t a b e Q := k
theorem i_chain (k : a e fun x e1 => b e1 fun y e2 => ∃ k, f x y = some (.bool k) ∧ if k = true then c e2 fun z e3 => ∃ r, h y z = some r ∧ Q r e3 else Q (.bool false) e2) : wChain f h a b c e Q := k
theorem i_iseq (k : a e fun x e1 => ∃ xs, seqD x = some xs ∧ QI xs e1) : wiSeq a e QI := k
theorem i_irg1 (k : a e fun x e1 => ∃ n : Int, x = .int n ∧ (-1000000 ≤ n ∧ n ≤ 1000000) ∧ QI ((irng 0 n).map .int) e1) : wiRg1 a e QI := by
  show a e _
  refine cast ?_ k
  congr 1
  funext x e1
  apply propext
  constructor
  · rintro ⟨n, h, h1, h2⟩; exact ⟨n, h, h1.1, h1.2, by rw [rangeD_ints]; exact h2⟩
  · rintro ⟨n, h, h1, h2, h3⟩; exact ⟨n, h, ⟨h1, h2⟩, by rw [rangeD_ints] at h3; exact h3⟩
theorem i_irg2 (k : a e fun x e1 => b e1 fun y e2 => ∃ m n : Int, x = .int m ∧ y = .int n ∧ (-1000000 ≤ m ∧ m ≤ 1000000 ∧ -1000000 ≤ n ∧ n ≤ 1000000) ∧ QI ((irng m n).map .int) e2) : wiRg2 a b e QI := by
  show a e _
  refine cast ?_ k
  congr 1
  funext x e1
  congr 1
  funext y e2
  apply propext
  constructor
  · rintro ⟨m, n, h, h', h1, h2⟩; exact ⟨m, n, h, h', h1.1, h1.2.1, h1.2.2.1, h1.2.2.2, by rw [rangeD_ints]; exact h2⟩
  · rintro ⟨m, n, h, h', h1, h2, h3, h4, h5⟩; exact ⟨m, n, h, h', ⟨h1, h2, h3, h4⟩, by rw [rangeD_ints] at h5; exact h5⟩
def zipK (QI : List D → En → Prop) (x y : D) (e : En) : Prop := ∃ xs ys, sameK x y = true ∧ seqD x = some xs ∧ seqD y = some ys ∧ QI (zipD xs ys) e
def enumK (QI : List D → En → Prop) (x : D) (e : En) : Prop := ∃ xs, seqD x = some xs ∧ QI (enumD xs) e
def lstZK (Q : D → En → Prop) (x y : D) (e : En) : Prop := ∃ xs ys, seqD x = some xs ∧ seqD y = some ys ∧ Q (.list (zipD xs ys)) e
theorem i_izip (k : a e fun x e1 => b e1 fun y e2 => zipK QI x y e2) : wiZip2 a b e QI := k
theorem i_ienum (k : a e fun x e1 => enumK QI x e1) : wiEnum a e QI := k
theorem i_irev (k : a e fun x e1 => ∃ xs, seqD x = some xs ∧ QI xs.reverse e1) : wiRev a e QI := k
def mutK (i : Nat) (F : List D → List D → Option (D × List D)) (Q : D → En → Prop) (ys : List D) (e : En) : Prop := ∃ xs z xs', e[i]? = some (some (.list xs)) ∧ F xs ys = some (z, xs') ∧ Q z (e.set i (some (.list xs')))
theorem i_mut {F : List D → List D → Option (D × List D)} {l : List D} (h : e[i]? = some (some (.list l))) (k : r e fun ys e1 => mutK i F Q ys e1) : wMut i F r e Q := ⟨⟨_, h⟩, k⟩
theorem i_mut1 {F : List D → List D → Option (D × List D)} {l l' ys : List D} {z : D} (h : e[i]? = some (some (.list l))) (hf : F l ys = some (z, l')) (k : Q z (e.set i (some (.list l')))) : mutK i F Q ys e := ⟨_, _, _, h, hf, k⟩
theorem i_plix (h : e[i]? = some (some .none)) (k : ∀ x : Int, Q (.int x) e) : wPlIx i e Q := ⟨h, k⟩
theorem i_plset (k : a e fun d e1 => ∃ y : Int, d = .int y ∧ e1[i]? = some (some .none) ∧ nx e1) : wPlSet i a ⟨nx, rt, bk, ct⟩ e := k
theorem i_np (k : a e fun d e1 => ∃ x y z : Int, d = .list [.int x, .int y, .int z] ∧ Q .none e1) : wNp a e Q := k
theorem i_lstrg (k : it e fun xs e1 => Q (.list xs) e1) : wLstRg it e Q := k
theorem i_comp {vs : List Nat} (k : it e fun xs e1 => compL g vs t b (fun acc e2 => Q (.list acc) (back e1 e2 vs)) xs [] (wp e1 vs)) : wComp it g vs t b e Q := k
def setK (i : Nat) (nx : En → Prop) (y j : D) (e : En) : Prop := ∃ k xs m, j = .int k ∧ e[i]? = some (some (.list xs)) ∧ ixN xs.length k = some m ∧ nx (e.set i (some (.list (xs.set m y))))
def setK0 (i : Nat) (b : WE) (nx : En → Prop) (y : D) (e : En) : Prop := (∃ xs, e[i]? = some (some (.list xs))) ∧ b e fun j e2 => setK i nx y j e2
theorem i_setix (k : a e fun y e1 => setK0 i b nx y e1) : wSetIx i a b ⟨nx, rt, bk, ct⟩ e := k
theorem i_setix0 {l : List D} {y : D} (h : e[i]? = some (some (.list l))) (k : b e fun j e2 => setK i nx y j e2) : setK0 i b nx y e := ⟨⟨_, h⟩, k⟩
theorem i_setixm {α : Type} {f : α → D} {L : List α} {v : α} {k : Int} (h : e[i]? = some (some (.list (L.map f)))) (h0 : 0 ≤ k) (h1 : k < (L.length : Int)) (q : nx (e.set i (some (.list ((L.set k.toNat v).map f))))) : setK i nx (f v) (.int k) e := by
  refine ⟨k, _, k.toNat, rfl, h, ?_, by rw [List.map_set] at q; exact q⟩
  simp [ixN, h0, h1]
theorem i_asO {d : D} (h : e[i]? = some (some d)) (nt : NT d) (k : p ⟨nx, rt, bk, ct⟩ e) : wAsO i p ⟨nx, rt, bk, ct⟩ e := ⟨fun d' h' => by rw [h] at h'; cases h'; exact nt, k⟩
theorem i_asV {d : D} (h : e[i]? = some (some (.tuple [d]))) (k : p ⟨fun e => nx (toF i e), fun d e => rt d (toF i e), fun e => bk (toF i e), fun e => ct (toF i e)⟩ (e.set i (some d))) : wAsV i p ⟨nx, rt, bk, ct⟩ e := ⟨d, h, k⟩
theorem i_frz {d : D} (h : e[i]? = some (some d)) (nt : NT d) (k : p ⟨nx, rt, bk, ct⟩ (e.set i (some (.tuple [d])))) : wFrz i p ⟨nx, rt, bk, ct⟩ e := ⟨d, h, nt, k⟩
theorem i_par2 {a b : D} {R : D → D → Prop} (k : R a b) : ∃ x y, [a, b] = [x, y] ∧ R x y := ⟨a, b, rfl, k⟩
theorem i_disp1 (k : a e fun x e1 => b e1 fun y e2 => (∃ k, keyOf x = some k) ∧ Q (.dict [(x, y)]) e2) : wDisp1 a b e Q := k
theorem i_keyI {i : Int} {R : Prop} (k : R) : (∃ k, keyOf (.int i) = some k) ∧ R := ⟨⟨_, rfl⟩, k⟩
theorem i_lstZ (k : a e fun x e1 => b e1 fun y e2 => lstZK Q x y e2) : wLstZip a b e Q := k
theorem i_T {A B : Prop} (k : A) : if true = true then A else B := k
theorem i_F {A B : Prop} (k : B) : if false = true then A else B := k
theorem i_dT {P A B : Prop} {_ : Decidable P} (h : P) (k : A) : if decide P = true then A else B := by rw [if_pos (by simpa using h)]; exact k
theorem i_dF {P A B : Prop} {_ : Decidable P} (h : ¬ P) (k : B) : if decide P = true then A else B := by rw [if_neg (by simpa using h)]; exact k
theorem i_ndT {P A B : Prop} {_ : Decidable P} (h : ¬ P) (k : A) : if (!decide P) = true then A else B := by rw [if_pos (by simpa using h)]; exact k
theorem i_ndF {P A B : Prop} {_ : Decidable P} (h : P) (k : B) : if (!decide P) = true then A else B := by rw [if_neg (by simpa using h)]; exact k
theorem i_bT {A B : Prop} {c : Bool} (h : c = true) (k : A) : if c = true then A else B := by rw [if_pos h]; exact k
theorem i_bF {A B : Prop} {c : Bool} (h : c = false) (k : B) : if c = true then A else B := by rw [if_neg (by simp [h])]; exact k
theorem i_ex {o : Option D} {z : D} {R : D → Prop} (h : o = some z) (k : R z) : ∃ z, o = some z ∧ R z := ⟨z, h, k⟩
theorem i_exb {z : Bool} {R : Bool → Prop} (k : R z) : ∃ b, PyData.bool z = .bool b ∧ R b := ⟨z, rfl, k⟩
theorem i_exi {z : Int} {R : Int → Prop} (k : R z) : ∃ b, PyData.int z = .int b ∧ R b := ⟨z, rfl, k⟩
theorem i_exk {o : Option D} {z : Bool} {R : Bool → Prop} (h : o = some (.bool z)) (k : R z) : ∃ b, o = some (.bool b) ∧ R b := ⟨z, h, k⟩
theorem i_exl {x : D} {z : List D} {R : List D → Prop} (h : seqD x = some z) (k : R z) : ∃ xs, seqD x = some xs ∧ R xs := ⟨z, h, k⟩
theorem i_rg1 {m : Int} {B : Int → Prop} {R : Int → Prop} (h : B m) (k : R m) : ∃ n : Int, PyData.int m = .int n ∧ B n ∧ R n := ⟨m, rfl, h, k⟩
theorem i_rg2 {m n : Int} {B : Int → Int → Prop} {R : Int → Int → Prop} (h : B m n) (k : R m n) : ∃ m' n' : Int, PyData.int m = .int m' ∧ PyData.int n = .int n' ∧ B m' n' ∧ R m' n' := ⟨m, n, rfl, rfl, h, k⟩
theorem i_len {xs : List D} {R : Prop} (h : xs.length ≤ 1000000) (k : R) : xs.length ≤ 1000000 ∧ R := ⟨h, k⟩
theorem i_g {o : Option En} {e2 : En} {R : En → Prop} (h : o = some e2) (k : R e2) : ∃ e2, o = some e2 ∧ R e2 := ⟨e2, h, k⟩
end
abbrev LI (l : List Int) : D := .list (l.map .int)
abbrev TI (l : List Int) : D := .tuple (l.map .int)
abbrev LP (l : List (Int × Int)) : D := .list (l.map dP)
abbrev TP (l : List (Int × Int)) : D := .tuple (l.map dP)
abbrev sI (n : Int) : Option D := some (.int n)
theorem powD_6 : powD (.int 10) (.int 6) = some (.int 1000000) := by simp [powD]
theorem powD_16 : powD (.int 10) (.int 16) = some (.int 10000000000000000) := by simp [powD]
theorem powD_18 : powD (.int 10) (.int 18) = some (.int 1000000000000000000) := by simp [powD]
theorem isTD_i {T : String} {i : Int} : isTD T (.int i) = some (.bool (isT T "int")) := rfl
theorem isTD_t (T : String) (xs : List D) : isTD T (.tuple xs) = some (.bool (isT T "tuple")) := rfl
theorem isTD_l (T : String) (xs : List D) : isTD T (.list xs) = some (.bool (isT T "list")) := rfl
theorem isTD_s (T : String) (x : Str) : isTD T (.str x) = some (.bool (isT T "str")) := rfl
theorem isTD_b (T : String) (b : Bool) : isTD T (.bool b) = some (.bool (isT T "bool")) := rfl
theorem isTD_n (T : String) : isTD T .none = some (.bool (isT T "NoneType")) := rfl
theorem isD_bb (a b : Bool) : isD (.bool a) (.bool b) = some (.bool (a == b)) := rfl
theorem isNotD_bb (a b : Bool) : isNotD (.bool a) (.bool b) = some (.bool (!(a == b))) := rfl
theorem isD_n' (u : Unit) : isD .none .none = some (.bool true) := rfl
theorem isD_lN (xs : List D) : isD (.list xs) .none = some (.bool false) := rfl
theorem isD_tN (xs : List D) : isD (.tuple xs) .none = some (.bool false) := rfl
theorem isNotD_lN (xs : List D) : isNotD (.list xs) .none = some (.bool true) := rfl
theorem isNotD_tN (xs : List D) : isNotD (.tuple xs) .none = some (.bool true) := rfl
theorem lenD_lm {α : Type} {f : α → D} {L : List α} : lenD [.list (L.map f)] = some (.int (L.length : Int)) := by simp [lenD]
theorem lenD_tm {α : Type} {f : α → D} {L : List α} : lenD [.tuple (L.map f)] = some (.int (L.length : Int)) := by simp [lenD]
theorem eqD_li (a b : List Int) : eqD (.list (a.map .int)) (.list (b.map .int)) = some (.bool (decide (a = b))) := by
  rw [eqD_lay (lay_lst (lay_ints a (k := 0))) (lay_lst (lay_ints b (k := 0))), eqv_lst eqv_ii]
theorem eqD_ti (a b : List Int) : eqD (.tuple (a.map .int)) (.tuple (b.map .int)) = some (.bool (decide (a = b))) := by
  rw [eqD_lay (lay_tup (lay_ints a (k := 0))) (lay_tup (lay_ints b (k := 0))), eqv_tup eqv_ii]
theorem neD_li (a b : List Int) : neD (.list (a.map .int)) (.list (b.map .int)) = some (.bool (!decide (a = b))) := by
  rw [neD_lay (lay_lst (lay_ints a (k := 0))) (lay_lst (lay_ints b (k := 0))), eqv_lst eqv_ii]
theorem neD_ti (a b : List Int) : neD (.tuple (a.map .int)) (.tuple (b.map .int)) = some (.bool (!decide (a = b))) := by
  rw [neD_lay (lay_tup (lay_ints a (k := 0))) (lay_tup (lay_ints b (k := 0))), eqv_tup eqv_ii]
theorem neD_l0 (a : List Int) : neD (.list (a.map .int)) (.list []) = some (.bool (!decide (a = []))) := neD_li a []
theorem eqD_l0 (a : List Int) : eqD (.list (a.map .int)) (.list []) = some (.bool (decide (a = []))) := eqD_li a []
theorem eqD_lp (a b : List (Int × Int)) : eqD (.list (a.map dP)) (.list (b.map dP)) = some (.bool (decide (a = b))) := by
  rw [eqD_lay (lay_lst (lay_map lay_dP a)) (lay_lst (lay_map lay_dP b)), eqv_lst eqv_dP]
theorem neD_lp (a b : List (Int × Int)) : neD (.list (a.map dP)) (.list (b.map dP)) = some (.bool (!decide (a = b))) := by
  rw [neD_lay (lay_lst (lay_map lay_dP a)) (lay_lst (lay_map lay_dP b)), eqv_lst eqv_dP]
theorem eqD_tp (a b : List (Int × Int)) : eqD (.tuple (a.map dP)) (.tuple (b.map dP)) = some (.bool (decide (a = b))) := by
  rw [eqD_lay (lay_tup (lay_map lay_dP a)) (lay_tup (lay_map lay_dP b)), eqv_tup eqv_dP]
theorem neD_tp (a b : List (Int × Int)) : neD (.tuple (a.map dP)) (.tuple (b.map dP)) = some (.bool (!decide (a = b))) := by
  rw [neD_lay (lay_tup (lay_map lay_dP a)) (lay_tup (lay_map lay_dP b)), eqv_tup eqv_dP]
theorem inD_li (x : Int) (xs : List Int) : inD (.int x) (.list (xs.map .int)) = some (.bool (decide (x ∈ xs))) := inD_l (k := 0) eqv_ii (fun i => lay_int i) x xs
theorem inD_ti (x : Int) (xs : List Int) : inD (.int x) (.tuple (xs.map .int)) = some (.bool (decide (x ∈ xs))) := inD_t (k := 0) eqv_ii (fun i => lay_int i) x xs
theorem notInD_li (x : Int) (xs : List Int) : notInD (.int x) (.list (xs.map .int)) = some (.bool (!decide (x ∈ xs))) := notInD_l (k := 0) eqv_ii (fun i => lay_int i) x xs
theorem notInD_ti (x : Int) (xs : List Int) : notInD (.int x) (.tuple (xs.map .int)) = some (.bool (!decide (x ∈ xs))) := notInD_t (k := 0) eqv_ii (fun i => lay_int i) x xs
theorem inD_lp (x : Int × Int) (xs : List (Int × Int)) : inD (dP x) (.list (xs.map dP)) = some (.bool (decide (x ∈ xs))) := inD_l eqv_dP lay_dP x xs
theorem inD_tp (x : Int × Int) (xs : List (Int × Int)) : inD (dP x) (.tuple (xs.map dP)) = some (.bool (decide (x ∈ xs))) := inD_t eqv_dP lay_dP x xs
theorem notInD_lp (x : Int × Int) (xs : List (Int × Int)) : notInD (dP x) (.list (xs.map dP)) = some (.bool (!decide (x ∈ xs))) := notInD_l eqv_dP lay_dP x xs
theorem notInD_tp (x : Int × Int) (xs : List (Int × Int)) : notInD (dP x) (.tuple (xs.map dP)) = some (.bool (!decide (x ∈ xs))) := notInD_t eqv_dP lay_dP x xs
theorem inD_lp' (a b : Int) (xs : List (Int × Int)) : inD (.tuple [.int a, .int b]) (.list (xs.map dP)) = some (.bool (decide ((a, b) ∈ xs))) := inD_lp (a, b) xs
theorem inD_tp' (a b : Int) (xs : List (Int × Int)) : inD (.tuple [.int a, .int b]) (.tuple (xs.map dP)) = some (.bool (decide ((a, b) ∈ xs))) := inD_tp (a, b) xs
theorem notInD_lp' (a b : Int) (xs : List (Int × Int)) : notInD (.tuple [.int a, .int b]) (.list (xs.map dP)) = some (.bool (!decide ((a, b) ∈ xs))) := notInD_lp (a, b) xs
theorem notInD_tp' (a b : Int) (xs : List (Int × Int)) : notInD (.tuple [.int a, .int b]) (.tuple (xs.map dP)) = some (.bool (!decide ((a, b) ∈ xs))) := notInD_tp (a, b) xs
theorem addD_lm {α : Type} {f : α → D} {a b : List α} (h : a.length + b.length ≤ 1000000) : addD (.list (a.map f)) (.list (b.map f)) = some (.list ((a ++ b).map f)) := by
  rw [List.map_append]; exact addD_l (by simpa using h)
theorem addD_tm {α : Type} {f : α → D} {a b : List α} (h : a.length + b.length ≤ 1000000) : addD (.tuple (a.map f)) (.tuple (b.map f)) = some (.tuple ((a ++ b).map f)) := by
  rw [List.map_append]; exact addD_t (by simpa using h)
theorem addLD_lm {α : Type} {f : α → D} {a b : List α} (h : a.length + b.length ≤ 1000000) : addLD (.list (a.map f)) (.list (b.map f)) = some (.list ((a ++ b).map f)) := by
  rw [List.map_append]; exact addLD_ok (by simpa using h)
theorem addD_1m {α : Type} {f : α → D} {x : α} {b : List α} (h : b.length ≤ 1000) : addD (.list [f x]) (.list (b.map f)) = some (.list ((x :: b).map f)) := addD_lm (a := [x]) (by simp; omega)
theorem repLD_0 {x n : Int} (h0 : -1000 ≤ n) (h1 : n ≤ 1000) : repLD (.list [.int x]) (.int n) = some (LI (List.replicate n.toNat x)) := by
  simp only [repLD, List.length_cons, List.length_nil, h0, h1, LI, List.map_replicate]
  rw [if_pos (by simp)]
  congr 2
  induction n.toNat with
  | zero => rfl
  | succ k ih => rw [List.replicate_succ, List.replicate_succ, List.flatten_cons, ih]; rfl
theorem appendF_m {α : Type} {f : α → D} {a : List α} {x : α} (h : a.length < 1000000) : appendF (a.map f) [f x] = some (.none, (a ++ [x]).map f) := by
  rw [appendF_ok (by simpa using h)]; simp
theorem extendF_m {α : Type} {f : α → D} {a b : List α} (h : a.length + b.length ≤ 1000000) : extendF (a.map f) [.list (b.map f)] = some (.none, (a ++ b).map f) := by
  rw [extendF_ok (by simpa using h)]; simp
theorem cut_to' {α : Type} {f : α → D} {L : List α} {c : Int} (h : 0 ≤ c) : cut (L.map f) none (some c) = (L.take c.toNat).map f := by
  simp only [cut, HT.sIx, Int.not_lt.mpr h]
  simp
theorem cut_from' {α : Type} {f : α → D} {L : List α} {c : Int} (h : 0 ≤ c) : cut (L.map f) (some c) none = (L.drop c.toNat).map f := by
  simp only [cut, HT.sIx, Int.not_lt.mpr h, if_false, List.length_map, ← List.map_drop]
  rw [List.take_of_length_le (by simp)]
  by_cases e : c.toNat ≤ L.length
  · rw [Nat.min_eq_left e]
  · rw [Nat.min_eq_right (by omega), List.drop_eq_nil_of_le (Nat.le_refl _), List.drop_eq_nil_of_le (by omega)]
theorem slT_tom {α : Type} {f : α → D} {L : List α} {c : Int} (h : 0 ≤ c) : slD (.tuple (L.map f)) none (some c) = some (.tuple ((L.take c.toNat).map f)) := by simp only [slD, cut_to' h]
theorem slT_frm {α : Type} {f : α → D} {L : List α} {c : Int} (h : 0 ≤ c) : slD (.tuple (L.map f)) (some c) none = some (.tuple ((L.drop c.toNat).map f)) := by simp only [slD, cut_from' h]
theorem slL_tom {α : Type} {f : α → D} {L : List α} {c : Int} (h : 0 ≤ c) : slD (.list (L.map f)) none (some c) = some (.list ((L.take c.toNat).map f)) := by simp only [slD, cut_to' h]
theorem slL_frm {α : Type} {f : α → D} {L : List α} {c : Int} (h : 0 ≤ c) : slD (.list (L.map f)) (some c) none = some (.list ((L.drop c.toNat).map f)) := by simp only [slD, cut_from' h]
theorem slL_m1 {α : Type} {f : α → D} {L : List α} : slD (.list (L.map f)) none (some (-1)) = some (.list (L.dropLast.map f)) := by
  have e1 : HT.sIx (L.map f).length (L.map f).length (some (-1)) = L.length - 1 := by simp [HT.sIx]; omega
  have e0 : HT.sIx (L.map f).length 0 none = 0 := rfl
  simp only [slD, cut, e1, e0, List.drop_zero, Nat.sub_zero]
  rw [← List.map_take, List.dropLast_eq_take]
/-- reading a row at a place -/
theorem ixN_int {n : Nat} {i : Int} (h0 : 0 ≤ i) (h1 : i < n) : ixN n i = some i.toNat := by simp [ixN, h0, h1]
theorem ixD_lm {α : Type} [Inhabited α] {f : α → D} {L : List α} {i : Int} (h0 : 0 ≤ i) (h1 : i < (L.length : Int)) : ixD (.list (L.map f)) (.int i) = some (f L[i.toNat]!) := by
  have h : i.toNat < L.length := by omega
  simp [ixD, ixN_int h0 (n := L.length) h1, h, getElem!_pos]
theorem ixD_tm {α : Type} [Inhabited α] {f : α → D} {L : List α} {i : Int} (h0 : 0 ≤ i) (h1 : i < (L.length : Int)) : ixD (.tuple (L.map f)) (.int i) = some (f L[i.toNat]!) := by
  have h : i.toNat < L.length := by omega
  simp [ixD, ixN_int h0 (n := L.length) h1, h, getElem!_pos]
theorem ixD_l0m {α : Type} {f : α → D} {x : α} {xs : List α} : ixD (.list ((x :: xs).map f)) (.int 0) = some (f x) := ixD_l0 _ _
theorem ixD_t0m {α : Type} {f : α → D} {x : α} {xs : List α} : ixD (.tuple ((x :: xs).map f)) (.int 0) = some (f x) := ixD_t0 _ _
theorem okD_s {a : Str} (h : PyData.canLay0 (.str a) = true) : okD (.str a) = true := by simp [okD, SeqAt.shaped, h, PyData.depth]
theorem eqD_s {a b : Str} (ha : PyData.canLay0 (.str a) = true) (hb : PyData.canLay0 (.str b) = true) : eqD (.str a) (.str b) = some (.bool (a == b)) := by
  simp [eqD, okD_s ha, okD_s hb, PyData.eqv]
theorem neD_s {a b : Str} (ha : PyData.canLay0 (.str a) = true) (hb : PyData.canLay0 (.str b) = true) : neD (.str a) (.str b) = some (.bool (!(a == b))) := by
  simp [neD, okD_s ha, okD_s hb, PyData.eqv]
theorem eqD_sT {a : Str} (ha : PyData.canLay0 (.str a) = true := by decide +kernel) : eqD (.str a) (.str a) = some (.bool true) := by rw [eqD_s ha ha]; simp
theorem eqD_sF {a b : Str} (h : (PyData.canLay0 (.str a) && PyData.canLay0 (.str b) && !(a == b)) = true := by decide +kernel) : eqD (.str a) (.str b) = some (.bool false) := by
  simp only [Bool.and_eq_true, Bool.not_eq_true'] at h
  rw [eqD_s h.1.1 h.1.2, h.2]
theorem neD_sT {a : Str} (ha : PyData.canLay0 (.str a) = true := by decide +kernel) : neD (.str a) (.str a) = some (.bool false) := by rw [neD_s ha ha]; simp
theorem neD_sF {a b : Str} (h : (PyData.canLay0 (.str a) && PyData.canLay0 (.str b) && !(a == b)) = true := by decide +kernel) : neD (.str a) (.str b) = some (.bool true) := by
  simp only [Bool.and_eq_true, Bool.not_eq_true'] at h
  rw [neD_s h.1.1 h.1.2, h.2]; rfl
theorem dP_0 (p : Int × Int) : ixD (dP p) (.int 0) = some (.int p.1) := rfl
theorem dP_1 (p : Int × Int) : ixD (dP p) (.int 1) = some (.int p.2) := rfl
abbrev gI (l : List Int) (i : Int) : Int := l[i.toNat]!
/-- what holds of all that is walked -/
def Fact {α : Type} (L : List α) (P : α → Prop) : Prop := ∀ x ∈ L, P x
theorem Fact.use {α : Type} {L : List α} {P : α → Prop} (h : Fact L P) {x : α} (hx : x ∈ L) : P x := h x hx
theorem i_idxL {f : D → D → Option D} {a b : WE} {e : En} {Q : D → En → Prop} (k : a e fun x e1 => ((∃ xs, x = .list xs) ∨ ∃ xs, x = xtD xs) ∧ b e1 fun y e2 => ∃ z, f x y = some z ∧ Q z e2) : wIdx f a b e Q := k
theorem i_idl {xs : List D} {R : Prop} (k : R) : ((∃ ys, PyData.list xs = .list ys) ∨ ∃ ys, PyData.list xs = xtD ys) ∧ R := ⟨.inl ⟨_, rfl⟩, k⟩
theorem i_idx {xs : List D} {R : Prop} (k : R) : ((∃ ys, xtD xs = .list ys) ∨ ∃ ys, xtD xs = xtD ys) ∧ R := ⟨.inr ⟨_, rfl⟩, k⟩
theorem idxD_li {l : List Int} {k : Int} (h : k ∈ l) : idxD (l.map .int) (.int k) = some (.int (l.idxOf k : Int)) := by
  unfold idxD
  rw [List.findIdx?_map]
  have e : ((fun z => PyData.eqv z (PyData.int k)) ∘ PyData.int) = fun z => z == k := by
    funext z
    simp only [Function.comp, eqv_ii]
    exact Bool.beq_eq_decide_eq z k ▸ rfl
  rw [e, List.findIdx?_eq_some_of_exists ⟨k, h, by simp⟩]
  rfl
theorem indexD_li {l : List Int} {k : Int} (h : k ∈ l) : indexD (LI l) (.int k) = some (.int (l.idxOf k : Int)) := by
  simp only [indexD, lay_ok (lay_lst (lay_ints l (k := 0))), lay_ok (lay_int k (k := 0)), and_self, if_true]
  exact idxD_li h
theorem indexD_xi {l : List Int} {k : Int} (h : k ∈ l) : indexD (xtD (l.map .int)) (.int k) = some (.int (l.idxOf k : Int)) := by
  simp only [indexD, xtD, lay_ok (lay_tup (lay_ints l (k := 0))), lay_ok (lay_int k (k := 0)), and_self, if_true]
  exact idxD_li h
theorem removeF_i {l : List Int} {k : Int} (h : k ∈ l) : removeF (l.map .int) [.int k] = some (.none, (l.erase k).map .int) := by simp [removeF, h]
theorem tupRevD_m {α : Type} {f : α → D} {l : List α} : tupRevD (.list (l.map f)) = some (.tuple (l.reverse.map f)) := by simp [tupRevD, List.map_reverse]
theorem map_eraseI {α β : Type} (f : α → β) : ∀ (l : List α) (k : Nat), (l.map f).eraseIdx k = (l.eraseIdx k).map f
  | [], k => by simp
  | _ :: _, 0 => by simp
  | a :: l, k + 1 => by simp [map_eraseI f l k]
theorem popAtF_m {α : Type} [Inhabited α] {f : α → D} {L : List α} {i : Int} (h0 : 0 ≤ i) (h1 : i < (L.length : Int)) : popAtF (L.map f) [.int i] = some (f L[i.toNat]!, (L.eraseIdx i.toNat).map f) := by
  have h : i.toNat < L.length := by omega
  have := popAtF_ok (xs := L.map f) (y := f L[i.toNat]!) (i := i.toNat) (by rw [List.getElem?_map, List.getElem?_eq_getElem h, getElem!_pos L i.toNat h]; rfl)
  rw [Int.toNat_of_nonneg h0] at this
  rw [this, map_eraseI]
theorem zipD_map {α β : Type} (f : α → D) (g : β → D) : ∀ (L : List α) (M : List β), zipD (L.map f) (M.map g) = (L.zip M).map fun z => .tuple [f z.1, g z.2]
  | [], _ => by simp [zipD]
  | _ :: _, [] => by simp [zipD]
  | x :: L, y :: M => by
    have := zipD_map f g L M
    unfold zipD at this ⊢
    simp [this]
theorem i_zipT {α β : Type} {f : α → D} {g : β → D} {L : List α} {M : List β} {QI : List D → En → Prop} {e : En} (k : QI ((L.zip M).map fun z => .tuple [f z.1, g z.2]) e) : zipK QI (.tuple (L.map f)) (.tuple (M.map g)) e := ⟨_, _, rfl, rfl, rfl, by rw [zipD_map]; exact k⟩
theorem i_lzT {α β : Type} {f : α → D} {g : β → D} {L : List α} {M : List β} {Q : D → En → Prop} {e : En} (k : Q (.list ((L.zip M).map fun z => .tuple [f z.1, g z.2])) e) : lstZK Q (.tuple (L.map f)) (.tuple (M.map g)) e := ⟨_, _, rfl, rfl, by rw [zipD_map]; exact k⟩
theorem i_lzL {α β : Type} {f : α → D} {g : β → D} {L : List α} {M : List β} {Q : D → En → Prop} {e : En} (k : Q (.list ((L.zip M).map fun z => .tuple [f z.1, g z.2])) e) : lstZK Q (.list (L.map f)) (.list (M.map g)) e := ⟨_, _, rfl, rfl, by rw [zipD_map]; exact k⟩
theorem i_zipL {α β : Type} {f : α → D} {g : β → D} {L : List α} {M : List β} {QI : List D → En → Prop} {e : En} (k : QI ((L.zip M).map fun z => .tuple [f z.1, g z.2]) e) : zipK QI (.list (L.map f)) (.list (M.map g)) e := ⟨_, _, rfl, rfl, rfl, by rw [zipD_map]; exact k⟩
abbrev enumL {α : Type} (L : List α) : List (Int × α) := (irng 0 L.length).zip L
theorem enumD_map {α : Type} (f : α → D) (L : List α) : enumD (L.map f) = (enumL L).map fun z => .tuple [.int z.1, f z.2] := by
  unfold enumD enumL
  rw [List.length_map, rangeD_ints, zipD_map]
theorem i_enum {α : Type} {f : α → D} {L : List α} {x : D} {QI : List D → En → Prop} {e : En} (h : seqD x = some (L.map f)) (k : QI ((enumL L).map fun z => .tuple [.int z.1, f z.2]) e) : enumK QI x e := ⟨_, h, by rw [enumD_map]; exact k⟩
def upd : En → List Nat → List (Option D) → En
  | e, i :: is, v :: vs => upd (e.set i v) is vs
  | e, _, _ => e
abbrev J2 (vs : List (Option D)) : Prop := ∃ a0 a1, vs = [a0, a1]
section
variable {α : Type} {enc : α → D} {L : List α} {g : WG} {b p q : WS} {t : WT} {nx bk ct : En → Prop} {rt : D → En → Prop} {e : En}
theorem for_st (sl : List Nat) (Inv : List α → List (Option D) → Prop) (vs0 : List (Option D)) (he : upd e sl vs0 = e) (h0 : Inv [] vs0)
    (hs : ∀ pre x post vs, L = pre ++ x :: post → Inv pre vs → ∀ R : En → Prop, (∀ vs', Inv (pre ++ [x]) vs' → R (upd e sl vs')) → ∃ e1, g (enc x) (upd e sl vs) = some e1 ∧ b ⟨R, rt, nx, R⟩ e1)
    (hend : ∀ vs, Inv L vs → nx (upd e sl vs)) : forL g b ⟨nx, rt, bk, ct⟩ (L.map enc) e := by
  have key : ∀ (post pre : List α) (vs : List (Option D)), L = pre ++ post → Inv pre vs → forL g b ⟨nx, rt, bk, ct⟩ (post.map enc) (upd e sl vs) := by
    intro post
    induction post with
    | nil =>
      intro pre vs hL hI
      rw [List.append_nil] at hL
      subst hL
      exact hend vs hI
    | cons x post ih =>
      intro pre vs hL hI
      exact hs pre x post vs hL hI _ fun vs' hI' => ih (pre ++ [x]) vs' (by rw [hL]; simp) hI'
  have := key L [] vs0 rfl h0
  rwa [he] at this
/-- an invariant of the whole environment: far quicker than for_st where many slots are written -/
theorem for_ev (Inv : List α → En → Prop) (h0 : Inv [] e)
    (hs : ∀ pre x post e1, L = pre ++ x :: post → Inv pre e1 → ∀ R : En → Prop, (∀ e2, Inv (pre ++ [x]) e2 → R e2) → ∃ e2, g (enc x) e1 = some e2 ∧ b ⟨R, rt, nx, R⟩ e2)
    (hend : ∀ e1, Inv L e1 → nx e1) : forL g b ⟨nx, rt, bk, ct⟩ (L.map enc) e := by
  have key : ∀ (post pre : List α) (e1 : En), L = pre ++ post → Inv pre e1 → forL g b ⟨nx, rt, bk, ct⟩ (post.map enc) e1 := by
    intro post
    induction post with
    | nil =>
      intro pre e1 hL hI
      rw [List.append_nil] at hL
      subst hL
      exact hend e1 hI
    | cons x post ih =>
      intro pre e1 hL hI
      exact hs pre x post e1 hL hI _ fun e2 hI' => ih (pre ++ [x]) e2 (by rw [hL]; simp) hI'
  exact key L [] e rfl h0
end
section
variable {α β : Type} {enc : α → D} {en2 : β → D} {L : List α} {g : WG} {vs : List Nat} {t : WT} {b : WE} {Q : List D → En → Prop} {e : En}
theorem comp_el {α : Type} {h : α → D} {xs : List α} (p : α → Bool) (f : α → β)
    (hs : ∀ x ∈ xs, ∃ e1, g (h x) e = some e1 ∧ (∀ R : Bool → En → Prop, R (p x) e1 → t e1 R) ∧ (p x = true → ∀ R : D → En → Prop, R (en2 (f x)) e1 → b e1 R) ∧ wp e1 vs = e) (hq : Q (((xs.filter p).map f).map en2) e) : compL g vs t b Q (xs.map h) [] e :=
  compL_map (h := h) (xs := xs) (acc := []) p (fun x => en2 (f x)) hs (by rw [List.nil_append]; rw [List.map_map] at hq; exact hq)
theorem comp_fil {α : Type} {h : α → D} {xs : List α} (p : α → Bool)
    (hs : ∀ x ∈ xs, ∃ e1, g (h x) e = some e1 ∧ (∀ R : Bool → En → Prop, R (p x) e1 → t e1 R) ∧ (p x = true → ∀ R : D → En → Prop, R (h x) e1 → b e1 R) ∧ wp e1 vs = e) (hq : Q ((xs.filter p).map h) e) : compL g vs t b Q (xs.map h) [] e :=
  compL_map (h := h) (xs := xs) (acc := []) p h hs (by rw [List.nil_append]; exact hq)
theorem comp_all {α : Type} {h : α → D} {xs : List α} (f : α → β)
    (hs : ∀ x ∈ xs, ∃ e1, g (h x) e = some e1 ∧ (∀ R : D → En → Prop, R (en2 (f x)) e1 → b e1 R) ∧ wp e1 vs = e) (hq : Q ((xs.map f).map en2) e) : compL g vs G7.tYes b Q (xs.map h) [] e := by
  refine comp_el (en2 := en2) (fun _ => true) f (fun x hx => ?_) (by rw [show xs.filter (fun _ => true) = xs from List.filter_eq_self.mpr fun _ _ => rfl]; exact hq)
  obtain ⟨e1, h1, h2, h3⟩ := hs x hx
  exact ⟨e1, h1, fun R h => h, fun _ => h2, h3⟩
theorem comp_allD {xs : List D} (f : D → β)
    (hs : ∀ x ∈ xs, ∃ e1, g x e = some e1 ∧ (∀ R : D → En → Prop, R (en2 (f x)) e1 → b e1 R) ∧ wp e1 vs = e) (hq : Q ((xs.map f).map en2) e) : compL g vs G7.tYes b Q xs [] e := by
  have := comp_all (h := id) (xs := xs) f hs hq
  rwa [List.map_id] at this
end
end G7

namespace G7
namespace Lib
open PySem
/-- _law_next(pool, base): slots 0 pool:p, 1 base:r, 2 digit:v, 3 mixed:v, 4 stir:v; modes ['pl', 'rd']; answer fz -/
def wb_l_next : WS :=
  (wSeq (wIf (tVal (wOp2 gtD (wPlIx 0) (wC (.int 0)))) (wSeq (wAsg 2 (wOp2 modD (wPlIx 0) (wVar 1)))
    (wSeq (wPlSet 0 (wOp2 fdivD (wPlIx 0) (wVar 1)))
    (wRet (wVar 2)))) wNil)
    (wSeq (wPlSet 0 (wOp2 addD (wPlIx 0) (wC (.int 1))))
    (wSeq (wAsg 3 (wOp2 modD (wOp2 addD (wPlIx 0) (wOp2 mulID (wC (.int 7919)) (wPlIx 0))) (wC (.int 1000000007))))
    (wSeq (wAsg 4 (wOp2 modD (wOp2 mulID (wOp2 addD (wVar 3) (wC (.int 11))) (wOp2 addD (wVar 3) (wC (.int 48271)))) (wC (.int 998244353))))
    (wRet (wOp2 modD (wOp2 fdivD (wOp2 modD (wOp2 mulID (wVar 4) (wVar 4)) (wC (.int 2147483647))) (wC (.int 8))) (wVar 1)))))))
/-- _law_web(pool, most): slots 0 pool:p, 1 most:r, 2 many:v, 3 way:v, 4 lack:v, 5 cut:v, 6 roots:v, 7 some:o, 8 a:v, 9 b:v, 10 chance:v, 11 lucky:v, 12 place:v; modes ['pl', 'rd']; answer fz -/
def wb_l_web (S_l_next : FS) : WS :=
  (wSeq (wAsg 2 (wOp2 addD (wC (.int 1)) (wCall S_l_next (waCons (wVar 0) (waCons (wVar 1) waNil)))))
    (wSeq (wAsg 3 (wCall S_l_next (waCons (wVar 0) (waCons (wC (.int 7)) waNil))))
    (wSeq (wAsg 4 (wOp2 addD (wC (.int 2)) (wCall S_l_next (waCons (wVar 0) (waCons (wC (.int 4)) waNil)))))
    (wSeq (wAsg 5 (wCall S_l_next (waCons (wVar 0) (waCons (wVar 2) waNil))))
    (wSeq (wAsg 6 (wComp (wiRg1 (wVar 2)) (gN 12) [12] G7.tYes (wCall S_l_next (waCons (wVar 0) (waCons (wBlt max2D (waCons (wC (.int 1)) (waCons (wVar 12) waNil))) waNil)))))
    (wSeq (wAsg 7 (wList waNil))
    (wSeq (wFor (wiRg1 (wVar 2)) (gN 8) (wFor (wiRg2 (wOp2 addD (wVar 8) (wC (.int 1))) (wVar 2)) (gN 9) (wSeq (wAsg 10 (wCall S_l_next (waCons (wVar 0) (waCons (wC (.int 6)) waNil))))
    (wSeq (wAsg 11 (wList (waCons (wOr (wOp2 eqD (wOp2 addD (wVar 8) (wC (.int 1))) (wVar 9)) (wAnd (wOp2 eqD (wVar 8) (wC (.int 0))) (wOp2 eqD (wOp2 addD (wVar 9) (wC (.int 1))) (wVar 2)))) (waCons (wOp2 ltD (wVar 10) (wOp2 addD (wVar 4) (wC (.int 3)))) (waCons (wOp2 eqD (wVar 10) (wC (.int 0))) (waCons (wOp2 eqD (wOp2 ixD (wVar 6) (wVar 9)) (wVar 8)) waNil))))))
    (wSeq (wAsg 11 (wOp2 addD (wVar 11) (wList (waCons (wAnd (wOp2 eqD (wOp2 ltD (wVar 8) (wVar 5)) (wOp2 ltD (wVar 9) (wVar 5))) (wOp2 ltD (wVar 10) (wC (.int 4)))) (waCons (wOp2 ltD (wVar 10) (wVar 4)) (waCons (wOr (wOp2 ltD (wVar 10) (wC (.int 3))) (wOp2 eqD (wOp2 ixD (wVar 6) (wVar 9)) (wVar 8))) waNil))))))
    (wIf (tAnd (tVal (wOp2 ixD (wVar 11) (wVar 3))) (tVal (wOp2 ltD (wBlt lenD (waCons (wVar 7) waNil)) (wC (.int 20))))) (wExpr (wMut 7 appendF (waCons (wTup (waCons (wVar 8) (waCons (wVar 9) waNil))) waNil))) wNil))))))
    (wRet (wTup (waCons (wVar 2) (waCons (wBlt tupD (waCons (wVar 7) waNil)) waNil)))))))))))
/-- _law_sound(thing): slots 0 thing:r; modes ['rd']; answer fz -/
def wb_l_sound : WS :=
  (wRet (wAnd (wOp1 (isTD "int") (wVar 0)) (wNot (wOp1 (isTD "bool") (wVar 0)))))
structure Web where
  n : Int
  ts : List (Int × Int)
def dW (w : Web) : D := .tuple [.int w.n, .tuple (w.ts.map dP)]
def lexP (s t : Int × Int) : Prop := s.1 < t.1 ∨ (s.1 = t.1 ∧ s.2 < t.2)
structure Web.ok (w : Web) : Prop where
  n1 : 1 ≤ w.n
  n9 : w.n ≤ 9
  len : w.ts.length ≤ 20
  rg : ∀ t ∈ w.ts, 0 ≤ t.1 ∧ t.1 < t.2 ∧ t.2 < w.n
  srt : w.ts.Pairwise lexP
def nearF (w : Web) (p : Int) : List Int := isort ((w.ts.filter fun t => decide (p = t.1) || decide (p = t.2)).map fun t => t.1 + t.2 - p)
def S_l_next : FS := fun ds Post => ∃ b : Int, ds = [.none, .int b] ∧ 0 < b ∧ b < 1073741824 ∧ ∀ r, 0 ≤ r → r < b → Post (.int r)
theorem m_l_next {rk : RK} : ∀ ds Post, S_l_next ds Post → wb_l_next { nx := fun _ => Post .none ∧ rk = .fz, rt := fun d _ => Post d } (startE 5 ds) := by
  rintro ds Post ⟨b, rfl, h0, h1, h⟩
  unfold wb_l_next startE
  have m1 : ∀ x : Int, mulID (.int 7919) (.int x) = some (.int (7919 * x)) := fun x => mulID_i (okMul_l (by omega) (by omega))
  have m2 : ∀ x : Int, mulID (.int (x % 1000000007 + 11)) (.int (x % 1000000007 + 48271)) = some (.int ((x % 1000000007 + 11) * (x % 1000000007 + 48271))) := fun x => mulID_i (okMul_l (by omega) (by omega))
  have m3 : ∀ x : Int, mulID (.int (x % 998244353)) (.int (x % 998244353)) = some (.int ((x % 998244353) * (x % 998244353))) := fun x => mulID_i (okMul_l (by omega) (by omega))
  simp [-Bool.exists_bool, -List.map_map, h0, h1, m1, m2, m3]
  intro x
  split
  · exact fun y => h _ (Int.emod_nonneg _ (by omega)) (Int.emod_lt_of_pos _ h0)
  · exact fun y z => h _ (Int.emod_nonneg _ (by omega)) (Int.emod_lt_of_pos _ h0)
/-- a draw -/
theorem next_i {b : Int} {Post : D → Prop} (h0 : 0 < b) (h1 : b < 1073741824) (h : ∀ r, 0 ≤ r → r < b → Post (.int r)) : S_l_next [.none, .int b] Post := ⟨b, rfl, h0, h1, h⟩
def S_l_sound : FS := fun ds Post => ∃ d, ds = [d] ∧ Post (.bool (tyD d == "int"))
theorem isT_int (t : String) : (if (t == "int" || t == "bool") = true then !(t == "bool") else false) = (t == "int") := by
  by_cases h1 : t = "int"
  · subst h1; decide
  · by_cases h2 : t = "bool"
    · subst h2; decide
    · simp [h1, h2]
theorem m_l_sound {rk : RK} : ∀ ds Post, S_l_sound ds Post → wb_l_sound { nx := fun _ => Post .none ∧ rk = .fz, rt := fun d _ => Post d } (startE 1 ds) := by
  rintro ds Post ⟨d, rfl, h⟩
  unfold wb_l_sound startE
  simp only [r_ret, r_and, r_op1, r_var, r_not]
  refine ⟨d, rfl, _, rfl, _, rfl, ?_⟩
  have e1 : isT "int" (tyD d) = (tyD d == "int" || tyD d == "bool") := by simp [isT]
  have e2 : isT "bool" (tyD d) = (tyD d == "bool") := by simp [isT]
  have := isT_int (tyD d)
  rw [e1]
  split
  · rename_i hc
    rw [if_pos hc] at this
    refine ⟨d, rfl, _, rfl, _, rfl, ?_⟩
    rw [e2, this]; exact h
  · rename_i hc
    rw [if_neg hc] at this
    rw [this]; exact h
def S_l_web : FS := fun ds Post => ∃ m : Int, ds = [.none, .int m] ∧ 1 ≤ m ∧ m ≤ 9 ∧ ∀ w : Web, w.ok → w.n ≤ m → Post (dW w)
theorem m_l_web {rk : RK} : ∀ ds Post, S_l_web ds Post → wb_l_web S_l_next { nx := fun _ => Post .none ∧ rk = .fz, rt := fun d _ => Post d } (startE 13 ds) := by
  rintro ds Post ⟨m, rfl, hm1, hm9, h⟩
  unfold wb_l_web startE
  simp [-Bool.exists_bool, -List.map_map, r_comp]
  refine next_i (by omega) (by omega) fun r0 a0 b0 => ?_
  simp [-Bool.exists_bool, -List.map_map]
  refine next_i (by omega) (by omega) fun way wa0 wa7 => next_i (by omega) (by omega) fun la la0 la4 => ?_
  simp [-Bool.exists_bool, -List.map_map]
  refine next_i (by omega) (by omega) fun cu cu0 cu1 => ⟨by omega, by omega, ?_⟩
  have hn : ∃ n : Int, n = 1 + r0 := ⟨_, rfl⟩
  obtain ⟨n, en⟩ := hn
  rw [← en]
  have n1 : 1 ≤ n := by omega
  have n9 : n ≤ 9 := by omega
  -- the roots
  refine compL_inv (fun i acc e => e = [some .none, some (.int m), some (.int n), some (.int way), some (.int (2 + la)), some (.int cu), none, none, none, none, none, none, none] ∧ ∃ rs : List Int, acc = rs.map .int ∧ rs.length = i) ⟨rfl, [], rfl, rfl⟩ ?_ ?_
  · rintro i x acc e hx ⟨rfl, rs, rfl, hl⟩
    rw [rangeD_ints] at hx
    obtain ⟨p, hp, rfl⟩ : ∃ p, p ∈ irng 0 n ∧ PyData.int p = x := by
      have := List.mem_of_getElem? hx
      simpa using this
    have hp' := mem_ints.mp hp
    refine ⟨_, rfl, fun R hR => ?_⟩
    simp [-Bool.exists_bool, -List.map_map]
    refine next_i (by split <;> omega) (by split <;> omega) fun r r0 r1 => ?_
    have := hR ((rs.map .int) ++ [.int r]) _ ⟨rfl, rs ++ [r], by simp, by simp [hl]⟩
    simpa using this
  · rintro acc e ⟨rfl, rs, rfl, hl⟩
    rw [rangeD_ints, List.length_map, ints_len] at hl
    simp [-Bool.exists_bool, -List.map_map]
    refine ⟨by omega, by omega, ?_⟩
    refine forL_inv (fun i e => ∃ (ps : List (Int × Int)) (A B C L : Option D), e = [some .none, some (.int m), some (.int n), some (.int way), some (.int (2 + la)), some (.int cu), some (.list (rs.map .int)), some (.list (ps.map dP)), A, B, C, L, none] ∧
      ps.length ≤ 20 ∧ ps.Pairwise lexP ∧ ∀ t ∈ ps, 0 ≤ t.1 ∧ t.1 < t.2 ∧ t.2 < n ∧ t.1 < (i : Int)) ⟨[], none, none, none, none, rfl, by simp, .nil, by simp⟩ ?_ ?_
    · rintro i e x R hx ⟨ps, A, B, C, L, rfl, hl20, hsr, hrg⟩ hR
      rw [rangeD_ints] at hx
      have hi : i < (n - 0).toNat := by
        have := (List.getElem?_eq_some_iff.mp hx).1
        simpa [ints_len] using this
      rw [List.getElem?_map, ints_get hi] at hx
      simp at hx
      subst hx
      simp [-Bool.exists_bool, -List.map_map]
      refine ⟨by omega, by omega, by omega, by omega, ?_⟩
      refine forL_inv (fun j e => ∃ (ps : List (Int × Int)) (B C L : Option D), e = [some .none, some (.int m), some (.int n), some (.int way), some (.int (2 + la)), some (.int cu), some (.list (rs.map .int)), some (.list (ps.map dP)), some (.int (i : Int)), B, C, L, none] ∧
        ps.length ≤ 20 ∧ ps.Pairwise lexP ∧ ∀ t ∈ ps, 0 ≤ t.1 ∧ t.1 < t.2 ∧ t.2 < n ∧ (t.1 < (i : Int) ∨ (t.1 = (i : Int) ∧ t.2 < (i : Int) + 1 + (j : Int)))) ⟨ps, B, C, L, rfl, hl20, hsr, fun t ht => ⟨(hrg t ht).1, (hrg t ht).2.1, (hrg t ht).2.2.1, .inl (hrg t ht).2.2.2⟩⟩ ?_ ?_
      · rintro j e x R' hx ⟨ps, B, C, L, rfl, hl20, hsr, hrg⟩ hR'
        rw [rangeD_ints] at hx
        have hj : j < (n - ((i : Int) + 1)).toNat := by
          have := (List.getElem?_eq_some_iff.mp hx).1
          simpa [ints_len] using this
        rw [List.getElem?_map, ints_get hj] at hx
        simp at hx
        subst hx
        have hroot : ∃ r : Int, ixD (.list (rs.map .int)) (.int ((i : Int) + 1 + (j : Int))) = some (.int r) := by
          have hk : i + 1 + j < rs.length := by omega
          refine ⟨rs[i + 1 + j], ?_⟩
          have := ixD_l (xs := rs.map .int) (i := i + 1 + j) (x := .int rs[i + 1 + j]) (by rw [List.getElem?_map, List.getElem?_eq_getElem hk]; rfl)
          rwa [show (((i + 1 + j : Nat)) : Int) = (i : Int) + 1 + (j : Int) by omega] at this
        obtain ⟨r, hroot⟩ := hroot
        refine ⟨_, rfl, ?_⟩
        refine seq_cut (fun e => ∃ ch : Int, e = [some .none, some (.int m), some (.int n), some (.int way), some (.int (2 + la)), some (.int cu), some (.list (rs.map .int)), some (.list (ps.map dP)), some (.int (i : Int)), some (.int ((i : Int) + 1 + (j : Int))), some (.int ch), L, none]) (fun R hR => ?_) ?_
        · simp [-Bool.exists_bool, -List.map_map]
          exact next_i (by omega) (by omega) fun ch ch0 ch6 => hR _ ⟨ch, rfl⟩
        rintro _ ⟨ch, rfl⟩
        refine seq_cut (fun e => ∃ l0 l1 l2 l3 : Bool, e = [some .none, some (.int m), some (.int n), some (.int way), some (.int (2 + la)), some (.int cu), some (.list (rs.map .int)), some (.list (ps.map dP)), some (.int (i : Int)), some (.int ((i : Int) + 1 + (j : Int))), some (.int ch), some (.list [.bool l0, .bool l1, .bool l2, .bool l3]), none]) (fun R hR => ?_) ?_
        · simp [-Bool.exists_bool, -List.map_map, hroot]
          repeat' (first | exact hR _ ⟨_, _, _, _, rfl⟩ | split)
        rintro _ ⟨l0, l1, l2, l3, rfl⟩
        refine seq_cut (fun e => ∃ l4 l5 l6 : Bool, e = [some .none, some (.int m), some (.int n), some (.int way), some (.int (2 + la)), some (.int cu), some (.list (rs.map .int)), some (.list (ps.map dP)), some (.int (i : Int)), some (.int ((i : Int) + 1 + (j : Int))), some (.int ch), some (.list ([l0, l1, l2, l3, l4, l5, l6].map .bool)), none]) (fun R hR => ?_) ?_
        · simp [-Bool.exists_bool, -List.map_map, hroot, addD]
          repeat' (first | exact hR _ ⟨_, _, _, rfl⟩ | split)
        rintro _ ⟨l4, l5, l6, rfl⟩
        have hluck : ∃ b : Bool, ixD (.list ([l0, l1, l2, l3, l4, l5, l6].map .bool)) (.int way) = some (.bool b) := by
          obtain ⟨k, rfl⟩ : ∃ k : Nat, way = (k : Int) := ⟨way.toNat, by omega⟩
          have hk : k < 7 := by omega
          refine ⟨[l0, l1, l2, l3, l4, l5, l6].getD k false, ixD_l ?_⟩
          match k, hk with
          | 0, _ => rfl
          | 1, _ => rfl
          | 2, _ => rfl
          | 3, _ => rfl
          | 4, _ => rfl
          | 5, _ => rfl
          | 6, _ => rfl
        obtain ⟨lk, hluck⟩ := hluck
        have same : R' _ := hR' _ ⟨ps, some (.int ((i : Int) + 1 + (j : Int))), some (.int ch), some (.list ([l0, l1, l2, l3, l4, l5, l6].map .bool)), rfl, hl20, hsr, fun t ht => ⟨(hrg t ht).1, (hrg t ht).2.1, (hrg t ht).2.2.1, (hrg t ht).2.2.2.imp id fun q => ⟨q.1, by omega⟩⟩⟩
        simp [-Bool.exists_bool, -List.map_map, -List.map_cons, hluck, appendF]
        cases lk with
        | false => simpa using same
        | true =>
          simp [-List.map_map, -List.map_cons]
          split
          · rename_i h20
            refine ⟨_, _, ⟨by omega, rfl, rfl⟩, ?_⟩
            have := hR' [some .none, some (.int m), some (.int n), some (.int way), some (.int (2 + la)), some (.int cu), some (.list (rs.map .int)), some (.list ((ps ++ [((i : Int), (i : Int) + 1 + (j : Int))]).map dP)), some (.int (i : Int)), some (.int ((i : Int) + 1 + (j : Int))), some (.int ch), some (.list ([l0, l1, l2, l3, l4, l5, l6].map .bool)), none]
              ⟨_, _, _, _, rfl, by simp; omega, ?_, ?_⟩
            · simpa [dP] using this
            · rw [List.pairwise_append]
              refine ⟨hsr, by simp, fun s hs t ht => ?_⟩
              simp at ht; subst ht
              rcases (hrg s hs).2.2.2 with q | q
              · exact .inl q
              · exact .inr ⟨q.1, by simp; omega⟩
            · intro t ht
              rcases List.mem_append.mp ht with ht | ht
              · exact ⟨(hrg t ht).1, (hrg t ht).2.1, (hrg t ht).2.2.1, (hrg t ht).2.2.2.imp id fun q => ⟨q.1, by omega⟩⟩
              · simp at ht; subst ht
                exact ⟨by show (0 : Int) ≤ i; omega, by show (i : Int) < i + 1 + j; omega, by show (i : Int) + 1 + j < n; omega, .inr ⟨rfl, by show (i : Int) + 1 + j < i + 1 + ((j + 1 : Nat) : Int); omega⟩⟩
          · exact same
      · rintro e ⟨ps, B, C, L, rfl, hl20, hsr, hrg⟩
        refine hR _ ⟨ps, some (.int (i : Int)), B, C, L, rfl, hl20, hsr, fun t ht => ⟨(hrg t ht).1, (hrg t ht).2.1, (hrg t ht).2.2.1, ?_⟩⟩
        rcases (hrg t ht).2.2.2 with q | q <;> omega
    · rintro e ⟨ps, A, B, C, L, rfl, hl20, hsr, hrg⟩
      simp [-Bool.exists_bool, -List.map_map]
      exact h ⟨n, ps⟩ ⟨n1, n9, hl20, fun t ht => ⟨(hrg t ht).1, (hrg t ht).2.1, (hrg t ht).2.2.1⟩, hsr⟩ (by show n ≤ m; omega)
end Lib
end G7

namespace G7
namespace Lib
open PySem
/-- tied -/
def T (w : Web) (a b : Int) : Prop := (a, b) ∈ w.ts ∨ (b, a) ∈ w.ts
theorem T.symm {w : Web} {a b : Int} (h : T w a b) : T w b a := h.elim .inr .inl
theorem T.rg {w : Web} (o : w.ok) {a b : Int} (h : T w a b) : 0 ≤ a ∧ a < w.n ∧ 0 ≤ b ∧ b < w.n ∧ a ≠ b := by
  rcases h with h | h <;> have := o.rg _ h <;> simp at this <;> omega
inductive Reach (w : Web) (p : Int) : Int → Prop
  | refl : Reach w p p
  | step {a b : Int} : Reach w p a → T w a b → Reach w p b
theorem Reach.rg {w : Web} (o : w.ok) {p q : Int} (hp : 0 ≤ p ∧ p < w.n) (h : Reach w p q) : 0 ≤ q ∧ q < w.n := by
  induction h with
  | refl => exact hp
  | step _ t _ => have := t.rg o; omega
theorem Reach.trans {w : Web} {p q r : Int} (h : Reach w p q) (h2 : Reach w q r) : Reach w p r := by
  induction h2 with
  | refl => exact h
  | step _ t ih => exact .step ih t
theorem Reach.symm {w : Web} {p q : Int} (h : Reach w p q) : Reach w q p := by
  induction h with
  | refl => exact .refl
  | step _ t ih => exact (Reach.step .refl t.symm).trans ih
def dT (l : List Int) : D := .tuple (l.map .int)
theorem irng_at {lo hi : Int} {i : Nat} {x : D} (h : (rangeD lo hi)[i]? = some x) : x = .int (lo + (i : Int)) ∧ i < (hi - lo).toNat ∧ (irng lo hi)[i]? = some (lo + (i : Int)) := by
  rw [rangeD_ints] at h
  have hi : i < (hi - lo).toNat := by
    have := (List.getElem?_eq_some_iff.mp h).1
    simpa [ints_len] using this
  rw [List.getElem?_map, ints_get hi] at h
  simp at h
  exact ⟨h.symm, hi, ints_get hi⟩
end Lib
end G7

namespace G7
namespace Lib
open PySem
/-- _law_dig(cell): slots 0 cell:r; modes ['rd']; answer nw -/
def wb_l_dig : WS :=
  (wRet (wList (waCons (wBlt max2D (waCons (wC (.int 0)) (waCons (wOp2 subD (wVar 0) (wOp2 powD (wC (.int 10)) (wC (.int 18)))) waNil))) (waCons (wOp2 modD (wVar 0) (wOp2 powD (wC (.int 10)) (wC (.int 18)))) (waCons (wC (.int 0)) waNil)))))
/-- _law_renamed(web, names): slots 0 web:r, 1 names:r, 2 ties:v, 3 a:v, 4 b:v; modes ['rd', 'rd']; answer fz -/
def wb_l_renamed : WS :=
  (wSeq (wAsg 2 (wComp (wiSeq (wOp2 ixD (wVar 0) (wC (.int 1)))) (gT [(gN 3), (gN 4)]) [3, 4] G7.tYes (wTup (waCons (wBlt min2D (waCons (wOp2 ixD (wVar 1) (wVar 3)) (waCons (wOp2 ixD (wVar 1) (wVar 4)) waNil))) (waCons (wBlt max2D (waCons (wOp2 ixD (wVar 1) (wVar 3)) (waCons (wOp2 ixD (wVar 1) (wVar 4)) waNil))) waNil)))))
    (wRet (wTup (waCons (wOp2 ixD (wVar 0) (wC (.int 0))) (waCons (wBlt tupD (waCons (wBlt sortedAD (waCons (wVar 2) waNil)) waNil)) waNil)))))
/-- _law_cell(script, k): slots 0 script:r, 1 k:r; modes ['rd', 'rd']; answer fz -/
def wb_l_cell : WS :=
  (wSeq (wIf (tVal (wOp2 ltD (wVar 1) (wBlt lenD (waCons (wVar 0) waNil)))) (wRet (wOp2 ixD (wVar 0) (wVar 1))) wNil)
    (wRet (wOp2 addD (wOp2 mulID (wOp2 mulID (wC (.int 7919)) (wVar 1)) (wVar 1)) (wOp2 mulID (wC (.int 31)) (wVar 1)))))
@[simp] theorem tupXD_l (ds : List D) : tupXD [.list ds] = some (xtD ds) := rfl
theorem map_erase {α β : Type} (f : α → β) : ∀ (l : List α) (k : Nat), (l.map f).eraseIdx k = (l.eraseIdx k).map f
  | [], _ => rfl
  | _ :: _, 0 => rfl
  | x :: l, k + 1 => by simp [map_erase f l k]
theorem erase_perm {α : Type} : ∀ {l : List α} {k : Nat} (h : k < l.length), (l[k] :: l.eraseIdx k).Perm l
  | _ :: _, 0, _ => List.Perm.refl _
  | x :: l, k + 1, h => by
    have := erase_perm (l := l) (k := k) (by simpa using h)
    simp only [List.getElem_cons_succ, List.eraseIdx_cons_succ]
    exact (List.Perm.swap _ _ _).trans (this.cons x)
def S_l_dig : FS := fun ds Post => ∃ c : Int, ds = [.int c] ∧ ∀ x y z : Int, Post (.list [.int x, .int y, .int z])
theorem m_l_dig {rk : RK} : ∀ ds Post, S_l_dig ds Post → wb_l_dig { nx := fun _ => Post .none ∧ rk = .fz, rt := fun d _ => Post d } (startE 1 ds) := by
  rintro ds Post ⟨c, rfl, h⟩
  unfold wb_l_dig startE
  simp [-Bool.exists_bool, -List.map_map, powD, h]
def S_l_cell : FS := fun ds Post => ∃ (ns : List Int) (k : Nat), ds = [.list (ns.map .int), .int (k : Int)] ∧ k ≤ 100000 ∧ ∀ c : Int, Post (.int c)
theorem m_l_cell {rk : RK} : ∀ ds Post, S_l_cell ds Post → wb_l_cell { nx := fun _ => Post .none ∧ rk = .fz, rt := fun d _ => Post d } (startE 2 ds) := by
  rintro ds Post ⟨ns, k, rfl, hk, h⟩
  unfold wb_l_cell startE
  simp [-Bool.exists_bool, -List.map_map]
  split
  · rename_i hlt
    rw [ixD_l (x := .int ns[k]) (by rw [List.getElem?_map, List.getElem?_eq_getElem hlt]; rfl)]
    exact ⟨_, rfl, h _⟩
  · rw [mulID_i (okMul_l (by omega) (by omega)), ]
    refine ⟨_, rfl, ?_⟩
    rw [mulID_i (okMul_r (by omega) (by omega)), mulID_i (okMul_l (by omega) (by omega))]
    refine ⟨_, rfl, _, rfl, _, rfl, h _⟩
def renP (ps : List Int) (t : Int × Int) : Int × Int := let a := ps.getD t.1.toNat 0; let b := ps.getD t.2.toNat 0; (if b < a then b else a, if b > a then b else a)
structure good (n : Int) (ts : List (Int × Int)) : Prop where
  nd : ts.Nodup
  rg : ∀ t ∈ ts, 0 ≤ t.1 ∧ t.1 < t.2 ∧ t.2 < n
theorem perm_get {ps : List Int} {n : Int} (hp : ps.Perm (irng 0 n)) {i : Int} (h0 : 0 ≤ i) (h1 : i < n) : ∃ hk : i.toNat < ps.length, ps.getD i.toNat 0 = ps[i.toNat] ∧ 0 ≤ ps[i.toNat] ∧ ps[i.toNat] < n := by
  have hl := hp.length_eq
  rw [ints_len] at hl
  have hk : i.toNat < ps.length := by omega
  refine ⟨hk, by rw [List.getD_eq_getElem?_getD, List.getElem?_eq_getElem hk]; rfl, ?_⟩
  have : ps[i.toNat] ∈ irng 0 n := hp.mem_iff.mp (List.getElem_mem hk)
  exact mem_ints.mp this
theorem perm_inj {ps : List Int} {n : Int} (hp : ps.Perm (irng 0 n)) {i j : Int} (h0 : 0 ≤ i) (h1 : i < n) (h2 : 0 ≤ j) (h3 : j < n) (e : ps.getD i.toNat 0 = ps.getD j.toNat 0) : i = j := by
  obtain ⟨hi, e1, _⟩ := perm_get hp h0 h1
  obtain ⟨hj, e2, _⟩ := perm_get hp h2 h3
  rw [e1, e2] at e
  have nd : ps.Nodup := hp.nodup_iff.mpr ((ints_sorted 0 n).imp fun h => by omega)
  have := (List.getElem_inj (h₀ := hi) (h₁ := hj) nd).mp e
  omega
theorem ren_ok {ps : List Int} {n : Int} (hp : ps.Perm (irng 0 n)) {t : Int × Int} (h : 0 ≤ t.1 ∧ t.1 < t.2 ∧ t.2 < n) : 0 ≤ (renP ps t).1 ∧ (renP ps t).1 < (renP ps t).2 ∧ (renP ps t).2 < n := by
  obtain ⟨_, e1, a1, a2⟩ := perm_get hp h.1 (by omega)
  obtain ⟨_, e2, b1, b2⟩ := perm_get hp (i := t.2) (by omega) h.2.2
  have ne : ps.getD t.1.toNat 0 ≠ ps.getD t.2.toNat 0 := fun e => by
    have := perm_inj hp h.1 (by omega) (by omega) h.2.2 e
    omega
  unfold renP
  rw [← e1] at a1 a2
  rw [← e2] at b1 b2
  simp only
  split <;> split <;> omega
theorem ren_inj {ps : List Int} {n : Int} (hp : ps.Perm (irng 0 n)) {t u : Int × Int} (h : 0 ≤ t.1 ∧ t.1 < t.2 ∧ t.2 < n) (h' : 0 ≤ u.1 ∧ u.1 < u.2 ∧ u.2 < n) (e : renP ps t = renP ps u) : t = u := by
  have i1 := fun z => perm_inj hp (i := t.1) (j := u.1) h.1 (by omega) h'.1 (by omega) z
  have i2 := fun z => perm_inj hp (i := t.2) (j := u.2) (by omega) h.2.2 (by omega) h'.2.2 z
  have i3 := fun z => perm_inj hp (i := t.1) (j := u.2) h.1 (by omega) (by omega) h'.2.2 z
  have i4 := fun z => perm_inj hp (i := t.2) (j := u.1) (by omega) h.2.2 h'.1 (by omega) z
  unfold renP at e
  simp only [Prod.mk.injEq] at e
  obtain ⟨e1, e2⟩ := e
  have key : (ps.getD t.1.toNat 0 = ps.getD u.1.toNat 0 ∧ ps.getD t.2.toNat 0 = ps.getD u.2.toNat 0) ∨ (ps.getD t.1.toNat 0 = ps.getD u.2.toNat 0 ∧ ps.getD t.2.toNat 0 = ps.getD u.1.toNat 0) := by
    split at e1 <;> split at e1 <;> split at e2 <;> split at e2 <;> omega
  rcases key with ⟨k1, k2⟩ | ⟨k1, k2⟩
  · exact Prod.ext (i1 k1) (i2 k2)
  · have := i3 k1; have := i4 k2; omega
theorem psort_strict {l : List (Int × Int)} (h : l.Nodup) : (psort l).Pairwise lexP := by
  have h1 := psort_sorted l
  have h2 : (psort l).Nodup := (psort_perm l).nodup_iff.mpr h
  have := List.Pairwise.and h1 (List.nodup_iff_pairwise_ne.mp h2)
  refine this.imp fun {a b} ⟨p, q⟩ => ?_
  unfold leP at p
  unfold lexP
  have : ¬ (a.1 = b.1 ∧ a.2 = b.2) := fun z => q (Prod.ext z.1 z.2)
  omega
theorem good.map {ps : List Int} {n : Int} (hp : ps.Perm (irng 0 n)) {ts : List (Int × Int)} (g : good n ts) : good n (ts.map (renP ps)) := by
  refine ⟨?_, fun t ht => ?_⟩
  · rw [List.nodup_iff_pairwise_ne, List.pairwise_map]
    exact (List.nodup_iff_pairwise_ne.mp g.nd).imp_of_mem fun ha hb h e => h (ren_inj hp (g.rg _ ha) (g.rg _ hb) e)
  · obtain ⟨u, hu, rfl⟩ := List.mem_map.mp ht
    exact ren_ok hp (g.rg u hu)
theorem good.web {n : Int} {ts : List (Int × Int)} (g : good n ts) (n1 : 1 ≤ n) (n9 : n ≤ 9) (hl : ts.length ≤ 20) : (Web.mk n (psort ts)).ok :=
  ⟨n1, n9, by rw [(psort_perm ts).length_eq]; exact hl, fun t ht => g.rg t ((psort_perm ts).mem_iff.mp ht), psort_strict g.nd⟩
/-- a row of names, whole or not -/
def S_l_renamed : FS := fun ds Post => ∃ (n : Int) (ts : List (Int × Int)) (ps : List Int) (N : D), ds = [.tuple [.int n, .tuple (ts.map dP)], N] ∧ tupOf N = some (ps.map .int) ∧ ps.Perm (irng 0 n) ∧ (∀ t ∈ ts, 0 ≤ t.1 ∧ t.1 < t.2 ∧ t.2 < n) ∧ Post (dW ⟨n, psort (ts.map (renP ps))⟩)
theorem m_l_renamed {rk : RK} : ∀ ds Post, S_l_renamed ds Post → wb_l_renamed { nx := fun _ => Post .none ∧ rk = .fz, rt := fun d _ => Post d } (startE 5 ds) := by
  rintro ds Post ⟨n, ts, ps, N, rfl, hN, hp, hrg, h⟩
  unfold wb_l_renamed startE
  simp [-Bool.exists_bool, -List.map_map, r_comp]
  refine compL_map (fun _ => true) (fun t => dP (renP ps t)) (fun t ht => ?_) ?_
  · have ht' := hrg t ht
    obtain ⟨k1, e1, _⟩ := perm_get hp ht'.1 (by omega)
    obtain ⟨k2, e2, _⟩ := perm_get hp (i := t.2) (by omega) ht'.2.2
    have gN : ∀ y, ixD N y = ixD (.tuple (ps.map .int)) y := fun y => by rcases tupOf_cases hN with rfl | rfl <;> cases y <;> rfl
    have g1 : ixD (.tuple (ps.map .int)) (.int t.1) = some (.int (ps.getD t.1.toNat 0)) := by
      have := ixD_t (xs := ps.map .int) (i := t.1.toNat) (x := .int (ps.getD t.1.toNat 0)) (by rw [List.getElem?_map, List.getElem?_eq_getElem k1, e1]; rfl)
      rwa [Int.toNat_of_nonneg (by omega)] at this
    have g2 : ixD (.tuple (ps.map .int)) (.int t.2) = some (.int (ps.getD t.2.toNat 0)) := by
      have := ixD_t (xs := ps.map .int) (i := t.2.toNat) (x := .int (ps.getD t.2.toNat 0)) (by rw [List.getElem?_map, List.getElem?_eq_getElem k2, e2]; rfl)
      rwa [Int.toNat_of_nonneg (by omega)] at this
    refine ⟨_, rfl, fun R hR => hR, fun _ R hR => ?_, rfl⟩
    simp [-Bool.exists_bool, -List.map_map, gN, g1, g2]
    exact hR
  · have e : ([] : List D) ++ (ts.filter fun _ => true).map (fun t => dP (renP ps t)) = (ts.map (renP ps)).map dP := by
      rw [List.nil_append, List.filter_eq_self.mpr (by simp), List.map_map]; rfl
    rw [e]
    simp [-Bool.exists_bool, -List.map_map]
    exact h
/-- _law_web(pool, most, cap): slots 0 pool:p, 1 most:r, 2 cap:r, 3 many:v, 4 pairs:v, 5 b:v, 6 way:v, 7 first:v, 8 size:v, 9 dense:v, 10 more:o, 11 a:v, 12 k:v, 13 pair:v; modes ['pl', 'rd', 'rd']; answer fz -/
def wb_l_webC (S_l_next : FS) (S_l_renamed : FS) (S_l_order : FS) : WS :=
  (wSeq (wAsg 3 (wOp2 addD (wC (.int 1)) (wCall S_l_next (waCons (wVar 0) (waCons (wVar 1) waNil)))))
    (wSeq (wAsg 4 (wList waNil))
    (wSeq (wFor (wiRg1 (wVar 3)) (gN 5) (wAsg 4 (wOp2 addD (wVar 4) (wComp (wiRg1 (wVar 5)) (gN 11) [11] G7.tYes (wTup (waCons (wVar 11) (waCons (wVar 5) waNil)))))))
    (wSeq (wAsg 6 (wCall S_l_next (waCons (wVar 0) (waCons (wC (.int 6)) waNil))))
    (wSeq (wAsg 7 (wList waNil))
    (wSeq (wIf (tAnd (tVal (wOp2 eqD (wVar 6) (wC (.int 0)))) (tVal (wOp2 gtD (wVar 3) (wC (.int 1))))) (wAsg 7 (wComp (wiRg2 (wC (.int 1)) (wVar 3)) (gN 5) [5] G7.tYes (wTup (waCons (wCall S_l_next (waCons (wVar 0) (waCons (wVar 5) waNil))) (waCons (wVar 5) waNil))))) wNil)
    (wSeq (wIf (tVal (wOp2 eqD (wVar 6) (wC (.int 1)))) (wAsg 7 (wComp (wiRg1 (wVar 3)) (gN 12) [12] (tVal (wOp2 gtD (wVar 3) (wC (.int 2)))) (wTup (waCons (wBlt min2D (waCons (wVar 12) (waCons (wOp2 modD (wOp2 addD (wVar 12) (wC (.int 1))) (wVar 3)) waNil))) (waCons (wBlt max2D (waCons (wVar 12) (waCons (wOp2 modD (wOp2 addD (wVar 12) (wC (.int 1))) (wVar 3)) waNil))) waNil))))) wNil)
    (wSeq (wIf (tVal (wOp2 eqD (wVar 6) (wC (.int 2)))) (wSeq (wAsg 8 (wOp2 addD (wC (.int 2)) (wCall S_l_next (waCons (wVar 0) (waCons (wC (.int 4)) waNil)))))
    (wAsg 7 (wComp (wiSeq (wVar 4)) (gN 13) [13] (tVal (wOp2 ltD (wOp2 ixD (wVar 13) (wC (.int 1))) (wVar 8))) (wVar 13)))) wNil)
    (wSeq (wAsg 9 (wOp2 ixD (wList (waCons (wC (.int 2)) (waCons (wC (.int 3)) (waCons (wC (.int 4)) (waCons (wC (.int 9)) waNil))))) (wCall S_l_next (waCons (wVar 0) (waCons (wC (.int 4)) waNil)))))
    (wSeq (wAsg 10 (wComp (wiSeq (wVar 4)) (gN 13) [13] (tAnd (tVal (wOp2 notInD (wVar 13) (wVar 7))) (tVal (wOp2 eqD (wCall S_l_next (waCons (wVar 0) (waCons (wVar 9) waNil))) (wC (.int 0))))) (wVar 13)))
    (wSeq (wWhile (tAnd (tVal (wOp2 gtD (wOp2 addD (wBlt lenD (waCons (wVar 7) waNil)) (wBlt lenD (waCons (wVar 10) waNil))) (wVar 2))) (tVal (wOp2 neD (wVar 10) (wList waNil)))) (wExpr (wMut 10 popAtF (waCons (wCall S_l_next (waCons (wVar 0) (waCons (wBlt lenD (waCons (wVar 10) waNil)) waNil))) waNil))))
    (wRet (wCall S_l_renamed (waCons (wTup (waCons (wVar 3) (waCons (wBlt tupD (waCons (wBlt sortedAD (waCons (wOp2 addD (wSl slD (wVar 7) woN (woS (wVar 2))) (wVar 10)) waNil)) waNil)) waNil))) (waCons (wCall S_l_order (waCons (wVar 0) (waCons (wVar 3) waNil))) waNil)))))))))))))))
theorem cut_to {xs : List D} {c : Int} (h : 0 ≤ c) : cut xs none (some c) = xs.take c.toNat := by
  obtain ⟨k, rfl⟩ : ∃ k : Nat, c = (k : Int) := ⟨c.toNat, by omega⟩
  unfold cut
  rw [HT.sIx_none, HT.sIx_nat]
  simp [List.take_eq_take_iff]
theorem slL_to {xs : List D} {c : Int} (h : 0 ≤ c) : slD (.list xs) none (some c) = some (.list (xs.take c.toNat)) := by simp only [slD, cut_to h]
def S_l_webC : FS := fun ds Post => ∃ m c : Int, ds = [.none, .int m, .int c] ∧ 1 ≤ m ∧ m ≤ 9 ∧ 0 ≤ c ∧ c ≤ 20 ∧ ∀ w : Web, w.ok → w.n ≤ m → (w.ts.length : Int) ≤ c → Post (dW w)
theorem eqvL_dP (p : Int × Int) (ps : List (Int × Int)) [Decidable (p ∈ ps)] : notInD (dP p) (.list (ps.map dP)) = some (.bool (!decide (p ∈ ps))) := notInD_l eqv_dP lay_dP p ps
theorem m_l_webG (So : FS) (hSo : ∀ (n : Int) (Post : D → Prop), 0 ≤ n → n ≤ 1000 → (∀ (ps : List Int) (N : D), tupOf N = some (ps.map .int) → ps.Perm (irng 0 n) → Post N) → So [.none, .int n] Post) : ∀ ds Post, S_l_webC ds Post → wb_l_webC S_l_next S_l_renamed So { nx := fun _ => Post .none ∧ RK.fz = .fz, rt := fun d _ => Post d } (startE 14 ds) := by
  rintro ds Post ⟨m, c, rfl, m1, m9, c0, c20, h⟩
  unfold wb_l_webC startE
  refine seq_cut (fun e => ∃ n : Int, 1 ≤ n ∧ n ≤ m ∧ e = [some .none, some (.int m), some (.int c), some (.int n), none, none, none, none, none, none, none, none, none, none]) (fun R hR => ?_) ?_
  · simp [-Bool.exists_bool, -List.map_map]
    exact next_i (by omega) (by omega) fun r r0 r1 => ⟨_, rfl, hR _ ⟨1 + r, by omega, by omega, rfl⟩⟩
  rintro _ ⟨n, n1, hnm, rfl⟩
  refine seq_cut (fun e => e = [some .none, some (.int m), some (.int c), some (.int n), some (.list []), none, none, none, none, none, none, none, none, none]) (fun R hR => ?_) ?_
  · simp [-Bool.exists_bool, -List.map_map]
    exact hR _ rfl
  rintro _ rfl
  -- all pairs
  refine seq_cut (fun e => ∃ (ps : List (Int × Int)) (B A : Option D), e = [some .none, some (.int m), some (.int c), some (.int n), some (.list (ps.map dP)), B, none, none, none, none, none, A, none, none] ∧ good n ps ∧ ps.length ≤ 81) (fun R0 hR0 => ?_) ?_
  · simp [-Bool.exists_bool, -List.map_map]
    refine ⟨by omega, by omega, ?_⟩
    refine forL_inv (fun i e => ∃ (ps : List (Int × Int)) (B A : Option D), e = [some .none, some (.int m), some (.int c), some (.int n), some (.list (ps.map dP)), B, none, none, none, none, none, A, none, none] ∧ good n ps ∧ (∀ t ∈ ps, t.2 < (i : Int)) ∧ ps.length ≤ 9 * i) ⟨[], none, none, rfl, ⟨.nil, by simp⟩, by simp, by simp⟩ ?_ ?_
    · rintro i e x R hx ⟨ps, B, A, rfl, g, hb, hl⟩ hR
      obtain ⟨rfl, hi, _⟩ := irng_at hx
      refine ⟨_, rfl, ?_⟩
      simp [-Bool.exists_bool, -List.map_map, r_comp]
      refine ⟨by omega, ?_⟩
      rw [rangeD_ints]
      refine compL_map (fun _ => true) (fun a => dP (a, (i : Int))) (fun a _ => by simp [-Bool.exists_bool, -List.map_map, dP]) ?_
      have e0 : ([] : List D) ++ ((irng 0 (i : Int)).filter fun _ => true).map (fun a => dP (a, (i : Int))) = ((irng 0 (i : Int)).map fun a => (a, (i : Int))).map dP := by
        rw [List.nil_append, List.filter_eq_self.mpr (by simp), List.map_map]; rfl
      rw [e0]
      have hlr : ((irng 0 (i : Int)).map fun a => (a, (i : Int))).length = i := by rw [List.length_map, ints_len]; omega
      simp [-Bool.exists_bool, -List.map_map]
      rw [addD_l (by rw [List.length_map, List.length_map, hlr]; omega)]
      refine ⟨_, rfl, hR _ ⟨ps ++ (irng 0 (i : Int)).map fun a => (a, (i : Int)), _, _, by rw [List.map_append], ⟨?_, ?_⟩, ?_, by rw [List.length_append, hlr]; omega⟩⟩
      · rw [List.nodup_append]
        refine ⟨g.nd, ?_, ?_⟩
        · rw [List.nodup_iff_pairwise_ne, List.pairwise_map]
          exact (ints_sorted 0 (i : Int)).imp fun {a b} h e => by injection e with e _; omega
        · intro a ha b hb' e
          subst e
          obtain ⟨z, _, rfl⟩ := List.mem_map.mp hb'
          have := hb _ ha
          simp at this
      · intro t ht
        rcases List.mem_append.mp ht with ht | ht
        · exact g.rg t ht
        · obtain ⟨z, hz, rfl⟩ := List.mem_map.mp ht
          have := mem_ints.mp hz
          simp only
          omega
      · intro t ht
        rcases List.mem_append.mp ht with ht | ht
        · have := hb t ht; omega
        · obtain ⟨z, hz, rfl⟩ := List.mem_map.mp ht
          simp only
          omega
    · rintro _ ⟨ps, B, A, rfl, g, hb, hl⟩
      rw [rangeD_ints, List.length_map, ints_len] at hl
      exact hR0 _ ⟨ps, B, A, rfl, g, by omega⟩
  rintro _ ⟨ps, B, A, rfl, g, hl81⟩
  -- which way
  refine seq_cut (fun e => ∃ (y : Int), e = [some .none, some (.int m), some (.int c), some (.int n), some (.list (ps.map dP)), B, some (.int y), none, none, none, none, A, none, none]) (fun R hR => ?_) ?_
  · simp [-Bool.exists_bool, -List.map_map]
    exact next_i (by omega) (by omega) fun r r0 r1 => hR _ ⟨r, rfl⟩
  rintro _ ⟨y, rfl⟩
  let F : En → Prop := fun e => ∃ (fs : List (Int × Int)) (B Z A : Option D), e = [some .none, some (.int m), some (.int c), some (.int n), some (.list (ps.map dP)), B, some (.int y), some (.list (fs.map dP)), Z, none, none, A, none, none] ∧ good n fs ∧ fs.length ≤ 81
  refine seq_cut F (fun R hR => ?_) ?_
  · simp [-Bool.exists_bool, -List.map_map]
    exact hR _ ⟨[], B, none, A, rfl, ⟨.nil, by simp⟩, by simp⟩
  clear B A
  rintro _ ⟨fs, B, Z, A, rfl, gf, hf⟩
  -- a tree
  refine seq_cut F (fun R hR => ?_) ?_
  · have keep : R [some .none, some (.int m), some (.int c), some (.int n), some (.list (ps.map dP)), B, some (.int y), some (.list (fs.map dP)), Z, none, none, A, none, none] := hR _ ⟨fs, B, Z, A, rfl, gf, hf⟩
    simp [-Bool.exists_bool, -List.map_map, r_comp]
    split
    · split
      · refine ⟨by omega, by omega, ?_⟩
        refine compL_inv (fun i acc e => e = [some .none, some (.int m), some (.int c), some (.int n), some (.list (ps.map dP)), none, some (.int y), some (.list (fs.map dP)), Z, none, none, A, none, none] ∧ ∃ qs : List (Int × Int), acc = qs.map dP ∧ good n qs ∧ (∀ t ∈ qs, t.2 < (i : Int) + 1) ∧ qs.length = i) ⟨rfl, [], rfl, ⟨.nil, by simp⟩, by simp, rfl⟩ ?_ ?_
        · rintro i x acc e hx ⟨rfl, qs, rfl, gq, hb, hl⟩
          obtain ⟨rfl, hi, _⟩ := irng_at hx
          refine ⟨_, rfl, fun R hR => ?_⟩
          simp [-Bool.exists_bool, -List.map_map]
          refine next_i (by omega) (by omega) fun r r0 r1 => ?_
          have := hR (qs.map dP ++ [dP (r, 1 + (i : Int))]) _ ⟨rfl, qs ++ [(r, 1 + (i : Int))], by simp, ⟨?_, ?_⟩, ?_, by simp [hl]⟩
          · simpa [dP] using this
          · rw [List.nodup_append]
            refine ⟨gq.nd, by simp, fun a ha b hb' e => ?_⟩
            simp at hb'; subst hb'; subst e
            have := hb _ ha; simp at this; omega
          · intro t ht
            rcases List.mem_append.mp ht with ht | ht
            · exact gq.rg t ht
            · simp at ht; subst ht; simp only; omega
          · intro t ht
            rcases List.mem_append.mp ht with ht | ht
            · have := hb t ht; omega
            · simp at ht; subst ht; simp only; omega
        · rintro acc e ⟨rfl, qs, rfl, gq, hb, hl⟩
          rw [rangeD_ints, List.length_map, ints_len] at hl
          exact hR _ ⟨qs, B, Z, A, rfl, gq, by omega⟩
      · exact keep
    · exact keep
  clear gf hf B Z A fs
  rintro _ ⟨fs, B, Z, A, rfl, gf, hf⟩
  -- a ring
  refine seq_cut F (fun R hR => ?_) ?_
  · have keep : R [some .none, some (.int m), some (.int c), some (.int n), some (.list (ps.map dP)), B, some (.int y), some (.list (fs.map dP)), Z, none, none, A, none, none] := hR _ ⟨fs, B, Z, A, rfl, gf, hf⟩
    simp [-Bool.exists_bool, -List.map_map, r_comp]
    split
    · refine ⟨by omega, by omega, ?_⟩
      rw [rangeD_ints]
      refine compL_map (fun _ => decide (2 < n)) (fun k => dP (if (k + 1) % n < k then (k + 1) % n else k, if (k + 1) % n > k then (k + 1) % n else k)) (fun k hk => ?_) ?_
      · refine ⟨_, rfl, fun R hR => ?_, fun _ R hR => ?_, rfl⟩
        · simp [-Bool.exists_bool, -List.map_map]
          exact hR
        · have hm : modD (.int (k + 1)) (.int n) = some (.int ((k + 1) % n)) := modD_i (by omega)
          simp [-Bool.exists_bool, -List.map_map, hm]
          simpa [dP] using hR
      · have e0 : ([] : List D) ++ ((irng 0 n).filter fun _ => decide (2 < n)).map (fun k => dP (if (k + 1) % n < k then (k + 1) % n else k, if (k + 1) % n > k then (k + 1) % n else k)) = (((irng 0 n).filter fun _ => decide (2 < n)).map fun k => (if (k + 1) % n < k then (k + 1) % n else k, if (k + 1) % n > k then (k + 1) % n else k)).map dP := by
          rw [List.nil_append, List.map_map]; rfl
        rw [e0]
        simp [-Bool.exists_bool, -List.map_map]
        have md : ∀ k ∈ irng 0 n, 2 < n → (k + 1 < n ∧ (k + 1) % n = k + 1) ∨ (k + 1 = n ∧ (k + 1) % n = 0) := fun k hk h2 => by
          have := mem_ints.mp hk
          by_cases h : k + 1 < n
          · exact .inl ⟨h, Int.emod_eq_of_lt (by omega) h⟩
          · have e : k + 1 = n := by omega
            exact .inr ⟨e, by rw [e]; exact Int.emod_self⟩
        refine hR _ ⟨_, _, _, _, rfl, ⟨?_, ?_⟩, ?_⟩
        · rw [List.nodup_iff_pairwise_ne, List.pairwise_map]
          refine ((ints_sorted 0 n).filter _).imp_of_mem fun {a b} ha hb hlt e => ?_
          have h2 : 2 < n := by simpa using (List.mem_filter.mp ha).2
          have ha' := (List.mem_filter.mp ha).1
          have hb' := (List.mem_filter.mp hb).1
          have ra := mem_ints.mp ha'
          have rb := mem_ints.mp hb'
          simp only [Prod.mk.injEq] at e
          obtain ⟨e1, e2⟩ := e
          rcases md a ha' h2 with ⟨q1, q2⟩ | ⟨q1, q2⟩ <;> rcases md b hb' h2 with ⟨q3, q4⟩ | ⟨q3, q4⟩ <;> rw [q2, q4] at e1 e2 <;> split at e1 <;> split at e1 <;> split at e2 <;> split at e2 <;> omega
        · intro t ht
          obtain ⟨k, hk, rfl⟩ := List.mem_map.mp ht
          have h2 : 2 < n := by simpa using (List.mem_filter.mp hk).2
          have hk' := (List.mem_filter.mp hk).1
          have rk := mem_ints.mp hk'
          simp only
          rcases md k hk' h2 with ⟨q1, q2⟩ | ⟨q1, q2⟩ <;> rw [q2] <;> split <;> split <;> omega
        · rw [List.length_map]
          have := List.length_filter_le (fun _ => decide (2 < n)) (irng 0 n)
          rw [ints_len] at this
          omega
    · exact keep
  clear gf hf B Z A fs
  rintro _ ⟨fs, B, Z, A, rfl, gf, hf⟩
  -- a crowd
  refine seq_cut F (fun R hR => ?_) ?_
  · have keep : R [some .none, some (.int m), some (.int c), some (.int n), some (.list (ps.map dP)), B, some (.int y), some (.list (fs.map dP)), Z, none, none, A, none, none] := hR _ ⟨fs, B, Z, A, rfl, gf, hf⟩
    simp [-Bool.exists_bool, -List.map_map, r_comp]
    split
    · refine next_i (by omega) (by omega) fun r r0 r1 => ?_
      simp [-Bool.exists_bool, -List.map_map]
      refine compL_map (fun t => decide (t.2 < 2 + r)) (fun t => dP t) (fun t ht => ?_) ?_
      · refine ⟨_, rfl, fun R hR => ?_, fun _ R hR => ?_, rfl⟩
        · simp [-Bool.exists_bool, -List.map_map, dP]
          exact hR
        · simpa [-Bool.exists_bool, -List.map_map] using hR
      · rw [List.nil_append]
        simp [-Bool.exists_bool, -List.map_map]
        refine hR _ ⟨_, _, _, _, rfl, ⟨g.nd.filter _, fun t ht => g.rg t (List.mem_filter.mp ht).1⟩, Nat.le_trans (List.length_filter_le _ _) hl81⟩
    · exact keep
  clear gf hf B Z A fs
  rintro _ ⟨fs, B, Z, A, rfl, gf, hf⟩
  -- how dense
  refine seq_cut (fun e => ∃ d : Int, 0 < d ∧ d < 100 ∧ e = [some .none, some (.int m), some (.int c), some (.int n), some (.list (ps.map dP)), B, some (.int y), some (.list (fs.map dP)), Z, some (.int d), none, A, none, none]) (fun R hR => ?_) ?_
  · simp [-Bool.exists_bool, -List.map_map]
    refine next_i (by omega) (by omega) fun r r0 r1 => ?_
    obtain ⟨k, rfl⟩ : ∃ k : Nat, r = (k : Int) := ⟨r.toNat, by omega⟩
    have hk : k < 4 := by omega
    match k, hk with
    | 0, _ => exact ⟨_, rfl, hR _ ⟨2, by omega, by omega, rfl⟩⟩
    | 1, _ => exact ⟨_, rfl, hR _ ⟨3, by omega, by omega, rfl⟩⟩
    | 2, _ => exact ⟨_, rfl, hR _ ⟨4, by omega, by omega, rfl⟩⟩
    | 3, _ => exact ⟨_, rfl, hR _ ⟨9, by omega, by omega, rfl⟩⟩
  rintro _ ⟨d, d0, d1, rfl⟩
  -- some more
  let G : List (Int × Int) → Prop := fun ms => good n ms ∧ ms.length ≤ 81 ∧ ∀ t ∈ ms, t ∉ fs
  refine seq_cut (fun e => ∃ ms : List (Int × Int), G ms ∧ e = [some .none, some (.int m), some (.int c), some (.int n), some (.list (ps.map dP)), B, some (.int y), some (.list (fs.map dP)), Z, some (.int d), some (.list (ms.map dP)), A, none, none]) (fun R hR => ?_) ?_
  · simp [-Bool.exists_bool, -List.map_map, r_comp]
    refine compL_inv (fun i acc e => e = [some .none, some (.int m), some (.int c), some (.int n), some (.list (ps.map dP)), B, some (.int y), some (.list (fs.map dP)), Z, some (.int d), none, A, none, none] ∧ ∃ ms : List (Int × Int), acc = ms.map dP ∧ ms.Nodup ∧ (∀ t ∈ ms, t ∈ ps.take i ∧ t ∉ fs) ∧ ms.length ≤ i) ⟨rfl, [], rfl, .nil, by simp, by simp⟩ ?_ ?_
    · rintro i x acc e hx ⟨rfl, ms, rfl, nd, hm, hl⟩
      obtain ⟨t, ht, rfl⟩ : ∃ t, ps[i]? = some t ∧ dP t = x := by
        rw [List.getElem?_map] at hx
        simpa using hx
      refine ⟨_, rfl, fun R hR => ?_⟩
      have wider : ∀ u ∈ ms, u ∈ ps.take (i + 1) ∧ u ∉ fs := fun u hu => ⟨by rw [List.take_succ]; exact List.mem_append_left _ (hm u hu).1, (hm u hu).2⟩
      have same : R (ms.map dP) [some .none, some (.int m), some (.int c), some (.int n), some (.list (ps.map dP)), B, some (.int y), some (.list (fs.map dP)), Z, some (.int d), none, A, none, none] := hR _ _ ⟨rfl, ms, rfl, nd, wider, by omega⟩
      simp [-Bool.exists_bool, -List.map_map]
      rw [eqvL_dP]
      refine ⟨_, rfl, _, rfl, ?_⟩
      by_cases hfm : t ∈ fs
      · simp [-Bool.exists_bool, -List.map_map, hfm]
        exact same
      · simp [-Bool.exists_bool, -List.map_map, hfm]
        refine next_i (by omega) (by omega) fun r r0 r1 => ?_
        simp [-Bool.exists_bool, -List.map_map]
        split
        · have := hR ((ms ++ [t]).map dP) _ ⟨rfl, ms ++ [t], rfl, ?_, ?_, by simp; omega⟩
          · simpa using this
          · rw [List.nodup_append]
            refine ⟨nd, by simp, fun a ha b hb e => ?_⟩
            simp at hb; subst hb; subst e
            have h1 := (hm _ ha).1
            obtain ⟨j, hj, e⟩ := List.getElem_of_mem h1
            rw [List.getElem_take] at e
            obtain ⟨hi, e2⟩ := List.getElem?_eq_some_iff.mp ht
            rw [List.length_take] at hj
            have := (List.getElem_inj (h₀ := by omega) (h₁ := hi) g.nd).mp (e.trans e2.symm)
            omega
          · intro u hu
            rcases List.mem_append.mp hu with hu | hu
            · exact wider u hu
            · simp at hu; subst hu
              refine ⟨?_, hfm⟩
              rw [List.take_succ, ht]; simp
        · exact same
    · rintro acc e ⟨rfl, ms, rfl, nd, hm, hl⟩
      rw [List.length_map] at hl
      refine hR _ ⟨ms, ⟨⟨nd, fun t ht => g.rg t ?_⟩, by omega, fun t ht => (hm t ht).2⟩, rfl⟩
      exact List.mem_of_mem_take (hm t ht).1
  rintro _ ⟨ms, gm, rfl⟩
  -- not too many
  refine seq_cut (fun e => ∃ ms : List (Int × Int), G ms ∧ ((fs.length : Int) + ms.length ≤ c ∨ ms = []) ∧ e = [some .none, some (.int m), some (.int c), some (.int n), some (.list (ps.map dP)), B, some (.int y), some (.list (fs.map dP)), Z, some (.int d), some (.list (ms.map dP)), A, none, none]) (fun R hR => ?_) ?_
  · refine whileN_inv (fun e => ∃ ms : List (Int × Int), G ms ∧ e = [some .none, some (.int m), some (.int c), some (.int n), some (.list (ps.map dP)), B, some (.int y), some (.list (fs.map dP)), Z, some (.int d), some (.list (ms.map dP)), A, none, none]) (fun e => match e[10]? with | some (some (PyData.list xs)) => xs.length | _ => 0) ?_ ⟨ms, gm, rfl⟩
    clear gm ms
    rintro e R1 ⟨ms, gm, rfl⟩ hR1
    have hne : neD (.list (ms.map dP)) (.list []) = some (.bool (!decide (ms = []))) := by
      have h1 : lay 2 (.list (ms.map dP)) := lay_lst (lay_map lay_dP ms)
      have h2 : lay 2 (.list []) := lay_lst (by simp)
      rw [neD_lay h1 h2]
      have := eqv_lst eqv_dP ms []
      simp only [List.map_nil] at this
      rw [this]
    simp [-Bool.exists_bool, -List.map_map, -List.map_eq_nil_iff, hne]
    split
    · by_cases hm : ms = []
      · simp [-Bool.exists_bool, -List.map_map, hm]
        exact hR _ ⟨[], by rw [← hm]; exact gm, .inr rfl, by rfl⟩
      · simp [-Bool.exists_bool, -List.map_map, hm]
        have hpos : 0 < ms.length := List.length_pos_iff.mpr hm
        have h81 := gm.2.1
        refine next_i (by omega) (by omega) fun r r0 r1 => ?_
        obtain ⟨k, rfl⟩ : ∃ k : Nat, r = (k : Int) := ⟨r.toNat, by omega⟩
        have hk : k < ms.length := by omega
        rw [popAtF_ok (y := dP ms[k]) (by rw [List.getElem?_map, List.getElem?_eq_getElem hk]; rfl)]
        have hsub : ∀ t ∈ ms.eraseIdx k, t ∈ ms := fun t ht => (List.eraseIdx_sublist _ _).mem ht
        refine ⟨_, _, rfl, hR1 _ ⟨ms.eraseIdx k, ⟨⟨gm.1.nd.sublist (List.eraseIdx_sublist _ _), fun t ht => gm.1.rg t (hsub t ht)⟩, ?_, fun t ht => gm.2.2 t (hsub t ht)⟩, by rw [map_erase]⟩ ?_⟩
        · have := List.length_eraseIdx_of_lt hk; omega
        · have := List.length_eraseIdx_of_lt hk
          simp [map_erase]
          omega
    · rename_i hle
      exact hR _ ⟨ms, gm, .inl (by omega), rfl⟩
  clear gm ms
  rintro _ ⟨ms, gm, hc, rfl⟩
  obtain ⟨gm, h81, hdis⟩ := gm
  have hcut : slD (.list (fs.map dP)) none (some c) = some (.list ((fs.take c.toNat).map dP)) := by
    rw [slL_to c0, List.map_take]
  simp [-Bool.exists_bool, -List.map_map, hcut]
  rw [addD_l (by simp; omega)]
  refine ⟨_, rfl, ?_⟩
  have em : List.take c.toNat (fs.map dP) ++ ms.map dP = (fs.take c.toNat ++ ms).map dP := by rw [List.map_append, List.map_take]
  rw [em]
  have gall : good n (fs.take c.toNat ++ ms) := by
    refine ⟨?_, fun t ht => ?_⟩
    · rw [List.nodup_append]
      exact ⟨gf.nd.sublist (List.take_sublist _ _), gm.nd, fun a ha b hb e => hdis b hb (by rw [← e]; exact List.mem_of_mem_take ha)⟩
    · rcases List.mem_append.mp ht with ht | ht
      · exact gf.rg t (List.mem_of_mem_take ht)
      · exact gm.rg t ht
  have hlen : ((fs.take c.toNat ++ ms).length : Int) ≤ c := by
    rw [List.length_append, List.length_take]
    rcases hc with hc | hc
    · omega
    · subst hc; simp; omega
  refine ⟨_, sortedAD_p _, _, rfl, hSo n _ (by omega) (by omega) fun nm N hN hp => ?_⟩
  refine ⟨n, psort (fs.take c.toNat ++ ms), nm, _, rfl, hN, hp, fun t ht => gall.rg t ((psort_perm _).mem_iff.mp ht), ?_⟩
  have g2 : good n (psort (fs.take c.toNat ++ ms)) := ⟨(psort_perm _).nodup_iff.mpr gall.nd, fun t ht => gall.rg t ((psort_perm _).mem_iff.mp ht)⟩
  have g3 := g2.map hp
  have hl3 : (((psort (fs.take c.toNat ++ ms)).map (renP nm)).length : Int) ≤ c := by
    rw [List.length_map, (psort_perm _).length_eq]; exact hlen
  refine h _ (g3.web n1 (by omega) (by omega)) hnm ?_
  show (((psort ((psort (fs.take c.toNat ++ ms)).map (renP nm))).length : Nat) : Int) ≤ c
  rw [(psort_perm _).length_eq]; exact hl3
/-- _law_order, a tuple of which not all is known -/
def wb_l_order (S_l_next : FS) : WS :=
  (wSeq (wAsg 2 (wLstRg (wiRg1 (wVar 1))))
    (wRet (wBlt tupD (waCons (wComp (wiRg1 (wVar 1)) (gN 3) [3] G7.tYes (wMut 2 popAtF (waCons (wCall S_l_next (waCons (wVar 0) (waCons (wBlt lenD (waCons (wVar 2) waNil)) waNil))) waNil))) waNil))))
def S_l_order : FS := fun ds Post => ∃ n : Int, ds = [.none, .int n] ∧ 0 ≤ n ∧ n ≤ 1000 ∧ ∀ ps : List Int, ps.Perm (irng 0 n) → Post (.tuple (ps.map .int))
theorem m_l_order {rk : RK} : ∀ ds Post, S_l_order ds Post → wb_l_order S_l_next { nx := fun _ => Post .none ∧ rk = .fz, rt := fun d _ => Post d } (startE 4 ds) := by
  rintro ds Post ⟨n, rfl, h0, h1, h⟩
  unfold wb_l_order startE
  simp [-Bool.exists_bool, -List.map_map, r_comp]
  refine ⟨by omega, by omega, by omega, by omega, ?_⟩
  refine compL_inv (fun i acc e => ∃ ts ls : List Int, e = [some .none, some (.int n), some (.list (ls.map .int)), none] ∧ acc = ts.map .int ∧ ts.length = i ∧ (ts ++ ls).Perm (irng 0 n)) ⟨[], irng 0 n, by rw [rangeD_ints], rfl, rfl, List.Perm.refl _⟩ ?_ ?_
  · rintro i x acc e hx ⟨ts, ls, rfl, rfl, hl, hp⟩
    obtain ⟨rfl, hi, _⟩ := irng_at hx
    have hlen := hp.length_eq
    rw [List.length_append, ints_len] at hlen
    refine ⟨_, rfl, fun R hR => ?_⟩
    simp [-Bool.exists_bool, -List.map_map]
    refine next_i (by omega) (by omega) fun r r0 r1 => ?_
    obtain ⟨k, rfl⟩ : ∃ k : Nat, r = (k : Int) := ⟨r.toNat, by omega⟩
    have hk : k < ls.length := by omega
    rw [popAtF_ok (y := .int ls[k]) (by rw [List.getElem?_map, List.getElem?_eq_getElem hk]; rfl)]
    refine ⟨_, _, rfl, ?_⟩
    have := hR (ts.map .int ++ [.int ls[k]]) _ ⟨ts ++ [ls[k]], ls.eraseIdx k, rfl, by simp, by simp [hl], ?_⟩
    · simpa [map_erase] using this
    · refine List.Perm.trans ?_ hp
      rw [List.append_assoc]
      refine List.Perm.append_left _ ?_
      exact erase_perm hk
  · rintro acc e ⟨ts, ls, rfl, rfl, hl, hp⟩
    have hlen := hp.length_eq
    rw [List.length_append, ints_len] at hlen
    rw [rangeD_ints, List.length_map, ints_len] at hl
    have : ls = [] := List.eq_nil_of_length_eq_zero (by omega)
    subst this
    exact h ts (by simpa using hp)
theorem m_l_webT {rk : RK} : ∀ ds Post, S_l_webC ds Post → wb_l_webC S_l_next S_l_renamed S_l_order { nx := fun _ => Post .none ∧ rk = .fz, rt := fun d _ => Post d } (startE 14 ds) :=
  m_l_webG S_l_order fun n Post h0 h1 h => ⟨n, rfl, h0, h1, fun ps hp => h ps _ rfl hp⟩
end Lib
end G7

namespace G7
namespace Lib
open PySem
theorem dW_0 (w : Web) : ixD (dW w) (.int 0) = some (.int w.n) := rfl
theorem dW_1 (w : Web) : ixD (dW w) (.int 1) = some (TP w.ts) := rfl
abbrev Ar := List (Int × Int)
/-- a rank that rises along each arrow -/
def Acyc (ls : Ar) : Prop := ∃ h : Int → Int, ∀ t ∈ ls, h t.1 < h t.2
theorem Acyc.sub {ls ms : Ar} (h : Acyc ls) (s : ∀ t ∈ ms, t ∈ ls) : Acyc ms := by
  obtain ⟨f, h⟩ := h
  exact ⟨f, fun t ht => h t (s t ht)⟩
/-- an order by which all arrows lead on -/
structure Topo (ls : Ar) (o : List Int) : Prop where
  nd : o.Nodup
  pr : ∀ xs p ys, o = xs ++ p :: ys → ∀ a, (a, p) ∈ ls → a ∈ xs
theorem Topo.nil {ls : Ar} : Topo ls [] := ⟨List.nodup_nil, fun xs p ys h => by simp at h⟩
/-- heights: of the places P the most steps of ways to them -/
structure IsH (ls : Ar) (P : Int → Prop) (h : Int → Int) : Prop where
  nn : ∀ p, P p → 0 ≤ h p
  up : ∀ a p, (a, p) ∈ ls → P p → h a < h p
  at' : ∀ p, P p → h p = 0 ∨ ∃ a, (a, p) ∈ ls ∧ h a = h p - 1
theorem IsH.least {ls : Ar} {P : Int → Prop} {h g : Int → Int} (i : IsH ls P h) (hP : ∀ t ∈ ls, P t.1 ∧ P t.2) (g0 : ∀ p, P p → 0 ≤ g p) (gu : ∀ a p, (a, p) ∈ ls → g a < g p) {p : Int} (hp : P p) : h p ≤ g p := by
  have key : ∀ (n : Nat) (p : Int), P p → h p ≤ n → h p ≤ g p := by
    intro n
    induction n with
    | zero => intro p hp hn; have := g0 p hp; omega
    | succ n ih =>
      intro p hp hn
      rcases i.at' p hp with e | ⟨a, ha, e⟩
      · have := g0 p hp; omega
      · have := ih a (hP _ ha).1 (by omega)
        have := gu a p ha
        omega
  exact key (h p).toNat p hp (by omega)
theorem IsH.one {ls : Ar} {P : Int → Prop} {h g : Int → Int} (i : IsH ls P h) (j : IsH ls P g) (hP : ∀ t ∈ ls, P t.1 ∧ P t.2) {p : Int} (hp : P p) : h p = g p :=
  Int.le_antisymm (i.least hP j.nn (fun a p ha => j.up a p ha (hP _ ha).2) hp) (j.least hP i.nn (fun a p ha => i.up a p ha (hP _ ha).2) hp)
/-- the greatest of nought and some -/
def max0 (l : List Int) : Int := l.foldl max 0
theorem maxAD_0 (l : List Int) : maxAD [.list ((0 :: l).map .int)] = some (.int (max0 l)) := by
  simp only [maxAD, intsD_map, Option.bind_some]; rfl
end Lib
end G7

namespace G7
namespace Lib
open PySem
/-- the least number from 0 on that is not there -/
def leastF (l : List Int) : Int := ((irng 0 ((l.length : Int) + 1)).find? fun x => decide (x ∉ l)).getD 0
/-- what is found along an order -/
def hueM (w : Web) : List Int → List (Int × Int) → List (Int × Int)
  | [], m => m
  | p :: os, m => hueM w os (m ++ [(p, leastF (((nearF w p).filter fun q => (m.lookup q).isSome).map fun q => (m.lookup q).getD 0))])
/-- the final hue -/
def H (w : Web) (os : List Int) (p : Int) : Int := ((hueM w os []).lookup p).getD 0
def dI (m : List (Int × Int)) : D := .dict (m.map fun p => (.int p.1, .int p.2))
theorem look_dI (m : List (Int × Int)) (q : Int) : lookD (m.map fun p => (PyData.int p.1, PyData.int p.2)) (.inl q) = (m.lookup q).map .int := by
  induction m with
  | nil => rfl
  | cons t m ih =>
    obtain ⟨a, b⟩ := t
    unfold lookD at ih ⊢
    by_cases h : a = q
    · subst h; simp [List.lookup, keyB]
    · have h2 : (q == a) = false := by simpa using fun e => h e.symm
      have h3 : keyB (.inl q) (.int a) = false := by simp [keyB, h]
      simp only [List.map_cons, List.find?_cons, h3, List.lookup, h2]
      exact ih
theorem plain_dI (m : List (Int × Int)) : plainM (m.map fun p => (PyData.int p.1, PyData.int p.2)) = true := by cases m <;> rfl
theorem dget_dI {m : List (Int × Int)} {q v : Int} (h : m.lookup q = some v) : dgetD (dI m) (.int q) = some (.int v) := by
  unfold dI
  simp only [dgetD, plain_dI, if_true, keyOf, Option.bind_some, look_dI, h, Option.map_some]
theorem din_dI (m : List (Int × Int)) (q : Int) : dinD (.int q) (dI m) = some (.bool (m.lookup q).isSome) := by
  unfold dI
  simp only [dinD, plain_dI, if_true, keyOf, Option.map_some, look_dI, Option.isSome_map]
theorem dnin_dI (m : List (Int × Int)) (q : Int) : dninD (.int q) (dI m) = some (.bool (!(m.lookup q).isSome)) := by
  unfold dI
  simp only [dninD, plain_dI, if_true, keyOf, Option.map_some, look_dI, Option.isSome_map]
end Lib
end G7

namespace G7
namespace Lib
open PySem
abbrev Mp := List (Int × Int)
def mput (m : Mp) (q v : Int) : Mp := if (m.lookup q).isSome = true then m.map (fun p => if q = p.1 then (p.1, v) else p) else m ++ [(q, v)]
theorem any_dI (m : Mp) (q : Int) : ((m.map fun p => (PyData.int p.1, PyData.int p.2)).any fun p => keyB (.inl q) p.1) = (m.lookup q).isSome := by
  have h := look_dI m q
  unfold lookD at h
  have h2 := congrArg Option.isSome h
  rw [Option.isSome_map, Option.isSome_map] at h2
  rw [← h2, List.isSome_find?]
theorem putDD_dI (m : Mp) (q v : Int) : putDD (m.map fun p => (PyData.int p.1, PyData.int p.2)) (.inl q) (.int v) = (mput m q v).map fun p => (PyData.int p.1, PyData.int p.2) := by
  unfold putDD mput
  rw [any_dI]
  split
  · rw [List.map_map, List.map_map]
    refine List.map_congr_left fun p _ => ?_
    simp only [Function.comp, keyB]
    by_cases c : q = p.1
    · simp [c]
    · have : ¬ p.1 = q := fun z => c z.symm
      simp [c, this]
  · simp [kD]
section
variable {e : En} {i : Nat} {nx bk ct : En → Prop} {rt : D → En → Prop} {m : Mp} {q v : Int}
def dputK (i : Nat) (nx : En → Prop) (y j : D) (e : En) : Prop := ∃ k m, keyOf j = some k ∧ e[i]? = some (some (.dict m)) ∧ plainM m = true ∧ m.length < 1000000 ∧ nx (e.set i (some (.dict (putDD m k y))))
def dputK0 (i : Nat) (b : WE) (nx : En → Prop) (y : D) (e : En) : Prop := (∃ m, e[i]? = some (some (.dict m)) ∧ plainM m = true) ∧ b e fun j e2 => dputK i nx y j e2
theorem i_dput {v ix : WE} (k : v e fun y e1 => dputK0 i ix nx y e1) : wDput i v ix ⟨nx, rt, bk, ct⟩ e := k
theorem i_dput0 {ix : WE} {y : D} (h : e[i]? = some (some (dI m))) (k : ix e fun j e2 => dputK i nx y j e2) : dputK0 i ix nx y e := ⟨⟨_, h, plain_dI m⟩, k⟩
theorem i_dput1 (h : e[i]? = some (some (dI m))) (hl : m.length < 1000000) (k : nx (e.set i (some (dI (mput m q v))))) : dputK i nx (.int v) (.int q) e :=
  ⟨.inl q, _, rfl, h, plain_dI m, by rw [List.length_map]; exact hl, by rw [putDD_dI]; exact k⟩
end
def dTP (ks : List (Int × Int)) : D := dTD (ks.map fun p => (dP p, .bool true))
def sput (ks : List (Int × Int)) (p : Int × Int) : List (Int × Int) := if p ∈ ks then ks else ks ++ [p]
def kP (p : Int × Int) : List L2.Key := [.inl p.1, .inl p.2]
theorem keyT_dP (p : Int × Int) : keyT (dP p) = some (kP p) := rfl
theorem keyTR_dP (p : Int × Int) : keyTR (dP p) = some (kP p) := rfl
theorem tD_kP (p : Int × Int) : tD (kP p) = dP p := rfl
theorem kP_inj {p q : Int × Int} : kP p = kP q ↔ p = q := by
  constructor
  · intro h
    simp only [kP, List.cons.injEq, Sum.inl.injEq, and_true] at h
    exact Prod.ext h.1 h.2
  · rintro rfl; rfl
theorem keyTB_dP (p q : Int × Int) : keyTB (kP p) (dP q) = decide (q = p) := by
  unfold keyTB
  rw [keyT_dP]
  simp only [Option.some.injEq, kP_inj]
theorem any_dTP (ks : List (Int × Int)) (p : Int × Int) : ((ks.map fun p => (dP p, PyData.bool true)).any fun z => keyTB (kP p) z.1) = decide (p ∈ ks) := by
  rw [List.any_map, Bool.eq_iff_iff]
  simp only [List.any_eq_true, Function.comp, keyTB_dP, decide_eq_true_eq]
  constructor
  · rintro ⟨x, h, rfl⟩; exact h
  · exact fun h => ⟨p, h, rfl⟩
theorem putTD_dTP (ks : List (Int × Int)) (p : Int × Int) : putTD (ks.map fun p => (dP p, PyData.bool true)) (kP p) (.bool true) = (sput ks p).map fun p => (dP p, .bool true) := by
  unfold putTD sput
  rw [any_dTP]
  by_cases h : p ∈ ks
  · simp only [h, decide_true, if_true]
    rw [List.map_map]
    refine List.map_congr_left fun q _ => ?_
    simp only [Function.comp]
    split <;> rfl
  · simp [h, tD_kP]
theorem lookTD_dTP (ks : List (Int × Int)) (p : Int × Int) : (lookTD (ks.map fun p => (dP p, PyData.bool true)) (kP p)).isSome = decide (p ∈ ks) := by
  unfold lookTD
  rw [Option.isSome_map, List.isSome_find?, any_dTP]
theorem dinTD_p (ks : List (Int × Int)) (p : Int × Int) : dinTD (dP p) (dTP ks) = some (.bool (decide (p ∈ ks))) := by
  simp only [dinTD, dTP, dTD, keyTR_dP, Option.map_some, lookTD_dTP]
theorem dninTD_p (ks : List (Int × Int)) (p : Int × Int) : dninTD (dP p) (dTP ks) = some (.bool (!decide (p ∈ ks))) := by
  simp only [dninTD, dTP, dTD, keyTR_dP, Option.map_some, lookTD_dTP]
theorem lenTD_p (ks : List (Int × Int)) : lenTD [dTP ks] = some (.int ks.length) := by simp [lenTD, dTP]
theorem sortTD_p (ks : List (Int × Int)) : sortTD (dTP ks) = some (LP (psort ks)) := by
  show (pairsD ((ks.map fun p => (dP p, PyData.bool true)).map (·.1))).map _ = _
  rw [List.map_map, show ((fun x : D × D => x.1) ∘ fun p : Int × Int => (dP p, PyData.bool true)) = dP from rfl, pairsD_dP]
  rfl
theorem sortTLD_p (ks : List (Int × Int)) : sortTLD [dTP ks] = some (LP (psort ks)) := sortTD_p ks
section
variable {e : En} {i : Nat} {nx bk ct : En → Prop} {rt : D → En → Prop} {ks : List (Int × Int)} {p : Int × Int} {Q : D → En → Prop}
theorem i_keysT (h : e[i]? = some (some (dTP ks))) (k : Q (LP (psort ks)) e) : wKeysT i e Q := ⟨_, _, h, sortTD_p ks, k⟩
def dputTK (i : Nat) (nx : En → Prop) (y j : D) (e : En) : Prop := ∃ k m, keyTR j = some k ∧ e[i]? = some (some (dTD m)) ∧ m.length < 1000000 ∧ nx (e.set i (some (dTD (putTD m k y))))
def dputTK0 (i : Nat) (b : WE) (nx : En → Prop) (y : D) (e : En) : Prop := (∃ m, e[i]? = some (some (dTD m))) ∧ b e fun j e2 => dputTK i nx y j e2
theorem i_dputT {v ix : WE} (k : v e fun y e1 => dputTK0 i ix nx y e1) : wDputT i v ix ⟨nx, rt, bk, ct⟩ e := k
theorem i_dputT0 {ix : WE} {y : D} (h : e[i]? = some (some (dTP ks))) (k : ix e fun j e2 => dputTK i nx y j e2) : dputTK0 i ix nx y e := ⟨⟨_, h⟩, k⟩
theorem i_dputT1 (h : e[i]? = some (some (dTP ks))) (hl : ks.length < 1000000) (k : nx (e.set i (some (dTP (sput ks p))))) : dputTK i nx (.bool true) (dP p) e :=
  ⟨kP p, _, keyTR_dP p, h, by rw [List.length_map]; exact hl, by rw [putTD_dTP]; exact k⟩
end
end Lib
end G7

namespace G7
open PySem

local macro_rules | `(tactic| walk_at "op") => `(tactic| first
  | with_reducible exact addD_i _ _ | with_reducible exact subD_i _ _ | with_reducible exact ltD_i _ _ | with_reducible exact leD_i _ _ | with_reducible exact gtD_i _ _ | with_reducible exact geD_i _ _
  | with_reducible exact eqD_i _ _ | with_reducible exact neD_i _ _ | with_reducible exact lenD_lm | with_reducible exact lenD_tm | with_reducible exact lenD_l _ | with_reducible exact lenD_t _ | with_reducible exact dP_0 _ | with_reducible exact dP_1 _
  | with_reducible exact ixD_t0 _ _ | with_reducible exact ixD_t1 _ _ _ | with_reducible exact ixD_t2 _ _ _ _ | with_reducible exact ixD_l0 _ _ | with_reducible exact ixD_l0m | with_reducible exact ixD_t0m | exact eqD_sT | exact eqD_sF | exact neD_sT | exact neD_sF | with_reducible exact ixD_l1 _ _ _
  | with_reducible exact Lib.dW_0 _ | with_reducible exact Lib.dW_1 _ | with_reducible exact tupD_l _ | with_reducible exact tupD_t _ | with_reducible exact lstD_l _ | with_reducible exact lstD_t _ | with_reducible exact max2D_i _ _ | with_reducible exact min2D_i _ _
  | with_reducible exact isTD_i | with_reducible exact revT_m | with_reducible exact slL_m1 | with_reducible exact tupRevD_m | ((with_reducible refine' indexD_li ?_); with_reducible assumption) | ((with_reducible refine' indexD_xi ?_); with_reducible assumption) | ((with_reducible refine' Lib.indexD_Xi ?_); with_reducible assumption) | with_reducible exact isTD_s _ _ | with_reducible exact powD_6 | with_reducible exact powD_16 | with_reducible exact powD_18 | with_reducible exact isTD_t _ _ | with_reducible exact isTD_l _ _ | with_reducible exact isTD_b _ _ | with_reducible exact isTD_n _ | with_reducible exact isD_bb _ _ | with_reducible exact isNotD_bb _ _ | with_reducible exact isD_n' () | with_reducible exact isD_lN _ | with_reducible exact isD_tN _ | with_reducible exact isNotD_lN _ | with_reducible exact isNotD_tN _ | with_reducible exact intD_b _ | with_reducible exact intD_i _ | with_reducible exact negD_i _ | with_reducible exact eqD_b _ _ | with_reducible exact neD_b _ _
  | with_reducible exact neD_l0 _ | with_reducible exact eqD_l0 _ | with_reducible exact eqD_li _ _ | with_reducible exact neD_li _ _ | with_reducible exact eqD_ti _ _ | with_reducible exact neD_ti _ _
  | with_reducible exact eqD_lp _ _ | with_reducible exact neD_lp _ _ | with_reducible exact eqD_tp _ _ | with_reducible exact neD_tp _ _
  | with_reducible exact inD_li _ _ | with_reducible exact inD_ti _ _ | with_reducible exact notInD_li _ _ | with_reducible exact notInD_ti _ _ | with_reducible exact inD_lp _ _ | with_reducible exact inD_tp _ _
  | with_reducible exact notInD_lp _ _ | with_reducible exact notInD_tp _ _ | with_reducible exact inD_lp' _ _ _ | with_reducible exact inD_tp' _ _ _ | with_reducible exact notInD_lp' _ _ _ | with_reducible exact notInD_tp' _ _ _
  | with_reducible exact inD_pair _ _ _ | with_reducible exact sortedAD_i _ | with_reducible exact sortedAD_p _ | with_reducible exact allD_b _ | with_reducible exact anyD_b _
  | ((with_reducible refine' addD_1m ?_); omega) | with_reducible exact Lib.maxAD_0 _ | with_reducible exact Lib.din_dI _ _ | with_reducible exact Lib.dinTD_p _ _ | with_reducible exact Lib.dninTD_p _ _ | with_reducible exact Lib.lenTD_p _ | with_reducible exact Lib.sortTLD_p _ | with_reducible exact Lib.dnin_dI _ _ | ((with_reducible apply Lib.dget_dI); with_reducible assumption) | ((with_reducible refine' repLD_0 ?_ ?_) <;> omega) | ((with_reducible refine' slT_tom ?_); omega) | ((with_reducible refine' slT_frm ?_); omega) | ((with_reducible refine' slL_tom ?_); omega) | ((with_reducible refine' slL_frm ?_); omega) | ((with_reducible refine' modD_i ?_); omega) | ((with_reducible refine' fdivD_i ?_ ?_) <;> omega) | ((with_reducible refine' mulID_i (okMul_l ?_ ?_)) <;> omega) | ((with_reducible refine' mulID_i (okMul_r ?_ ?_)) <;> omega)
  | ((with_reducible refine' ixD_lm ?_ ?_) <;> omega) | ((with_reducible refine' ixD_tm ?_ ?_) <;> omega) | with_reducible assumption)
local macro_rules | `(tactic| walk_at "env") => `(tactic| simp only [List.set_cons_zero, List.set_cons_succ, upd, wp_cons, wp_nil, back_cons, back_nil, List.getElem?_cons_zero, List.getElem?_cons_succ, Option.getD_some, toF])
local macro_rules | `(tactic| walk_at "cond") => `(tactic| first | assumption | omega | exact rfl | (focus (simp; done)))
local macro_rules | `(tactic| walk_at "mut") => `(tactic| first | ((with_reducible refine' popAtF_m ?_ ?_) <;> omega) | ((with_reducible refine' appendF_m ?_); first | omega | (simp only [List.length_append, List.length_map, List.length_cons, List.length_nil]; omega)) | ((with_reducible refine' removeF_i ?_); (first | assumption | (simp; done))) | ((with_reducible refine' extendF_m ?_); first | omega | (simp only [List.length_append, List.length_map, List.length_cons, List.length_nil]; omega)))
local macro_rules | `(tactic| walk_at "s") => `(tactic| first
  | with_reducible refine' i_seq ?_ | ((with_reducible apply i_frz); (exact rfl); (first | exact nt_l | exact nt_d)) | ((with_reducible apply i_asV); (exact rfl)) | ((with_reducible apply i_asO); (exact rfl); (first | exact nt_l | exact nt_d)) | with_reducible refine' i_op2 ?_ | with_reducible refine' i_acons ?_ | with_reducible refine' i_anil ?_ | ((with_reducible apply i_var); exact rfl) | with_reducible refine' i_c ?_
  | with_reducible refine' i_asg ?_ | with_reducible refine' i_par ?_ | with_reducible refine' i_par2 ?_ | with_reducible refine' i_call ?_ | with_reducible refine' i_blt ?_ | with_reducible refine' i_op1 ?_ | with_reducible refine' i_tup ?_ | with_reducible refine' i_list ?_
  | ((with_reducible apply i_ex); walk_at "op") | ((with_reducible apply i_exk); walk_at "op")
  | with_reducible refine' i_val ?_ | with_reducible refine' i_exb ?_ | with_reducible refine' i_if ?_ | with_reducible refine' i_ret ?_ | with_reducible refine' i_nil ?_
  | with_reducible refine' i_T ?_ | with_reducible refine' i_F ?_ | with_reducible refine' i_tand ?_ | with_reducible refine' i_tor ?_ | with_reducible refine' i_tnot ?_ | with_reducible refine' i_yes ?_
  | with_reducible refine' i_and ?_ | with_reducible refine' i_or ?_ | with_reducible refine' i_not ?_ | with_reducible refine' i_ife ?_ | with_reducible refine' i_chain ?_
  | with_reducible refine' i_comp ?_ | with_reducible refine' i_iseq ?_ | with_reducible refine' i_irg1 ?_ | with_reducible refine' i_irg2 ?_ | with_reducible refine' i_izip ?_ | with_reducible refine' i_lstZ ?_ | with_reducible refine' i_lzT ?_ | with_reducible refine' i_lzL ?_ | with_reducible refine' i_disp1 ?_ | with_reducible refine' i_keyI ?_ | with_reducible refine' i_zipT ?_ | with_reducible refine' i_zipL ?_ | with_reducible refine' i_ienum ?_ | ((with_reducible apply i_enum); exact rfl) | with_reducible refine' i_irev ?_
  | with_reducible refine' i_for ?_ | with_reducible refine' i_lstrg ?_ | with_reducible refine' i_asgG ?_ | with_reducible refine' i_asgP ?_ | with_reducible refine' i_expr ?_ | with_reducible refine' i_retN ?_ | with_reducible refine' i_brk ?_ | with_reducible refine' i_cnt ?_
  | with_reducible refine' i_on ?_ | with_reducible refine' i_os ?_ | with_reducible refine' i_sl ?_ | ((with_reducible apply i_exl); exact rfl)
  | ((with_reducible refine' i_rg1 ?_ ?_); (constructor <;> omega)) | ((with_reducible refine' i_rg2 ?_ ?_); (refine ⟨?_, ?_, ?_, ?_⟩ <;> omega))
  | with_reducible refine' i_exi ?_
  | (with_reducible refine' i_len (Nat.le_of_ble_eq_true rfl) ?_)
  | ((with_reducible apply i_g); exact rfl) | ((with_reducible refine' i_plix ?_ ?_); exact rfl) | with_reducible refine' i_plset ?_ | with_reducible refine' i_np ?_
  | with_reducible refine' Lib.i_xt ?_ | with_reducible refine' Lib.i_idxX ?_ | with_reducible refine' i_idxL ?_ | with_reducible refine' i_idl ?_ | with_reducible refine' i_idx ?_
  | ((with_reducible apply i_mut1); (exact rfl); walk_at "mut")
  | ((with_reducible apply Lib.i_keysT); exact rfl) | (with_reducible refine' Lib.i_dputT ?_) | ((with_reducible apply Lib.i_dputT0); exact rfl) | ((with_reducible apply Lib.i_dputT1); (exact rfl); omega)
  | (with_reducible refine' Lib.i_dput ?_) | ((with_reducible apply Lib.i_dput0); exact rfl) | ((with_reducible apply Lib.i_dput1); (exact rfl); omega)
  | ((with_reducible refine' i_dT ?_ ?_); walk_at "cond") | ((with_reducible refine' i_dF ?_ ?_); walk_at "cond") | ((with_reducible refine' i_ndT ?_ ?_); walk_at "cond") | ((with_reducible refine' i_ndF ?_ ?_); walk_at "cond")
  | ((with_reducible refine' i_bT ?_ ?_); (first | with_reducible assumption | exact rfl)) | ((with_reducible refine' i_bF ?_ ?_); (first | with_reducible assumption | exact rfl))
  | ((with_reducible apply i_setixm); (exact rfl); omega; omega) | (with_reducible refine' i_setix ?_) | ((with_reducible apply i_setix0); exact rfl) | ((with_reducible apply i_mut); exact rfl))
local macro_rules | `(tactic| walk_at "run") => `(tactic| (repeat (walk_at "s")); try walk_at "env")
local macro_rules | `(tactic| walk_at "start") => `(tactic| simp only [startE, List.map_cons, List.map_nil, List.length_cons, List.length_nil, Nat.reduceAdd, Nat.reduceSub, Nat.zero_add, List.replicate_succ, List.replicate_zero, List.cons_append, List.nil_append])
local macro_rules | `(tactic| walk_at "len") => `(tactic| first | omega | (simp only [List.length_map, List.length_append, List.length_cons, List.length_nil]; omega) | (refine Nat.le_trans ?_ (Nat.le_refl _); have := List.length_filter_le; simp_all; done))
local macro_rules | `(tactic| walk_at "opl") => `(tactic| first | ((with_reducible refine' addD_lm ?_); walk_at "len") | ((with_reducible refine' addD_tm ?_); walk_at "len") | ((with_reducible refine' addLD_lm ?_); walk_at "len"))
/-- a comprehension: of what is walked itself, of ints, pairs, truths -/
local macro_rules | `(tactic| walk_at "comp") => `(tactic| first
  | (refine comp_fil ?_ (fun x hx => ?_) ?_; rotate_left 1; focus ((try have hx1 := Fact.use (by assumption) hx); (try have hx2 := mem_ints.mp hx); (try dsimp only at hx1); refine ⟨_, rfl, fun R hR => ?_, fun hp R hR => ?_, rfl⟩ <;> (repeat (walk_at "s")) <;> exact hR))
  | (refine comp_all (en2 := PySem.PyData.int) ?_ (fun x hx => ?_) ?_; rotate_left 1; focus ((try have hx1 := Fact.use (by assumption) hx); (try have hx2 := mem_ints.mp hx); (try dsimp only at hx1); refine ⟨_, rfl, fun R hR => ?_, rfl⟩ <;> (repeat (walk_at "s")) <;> exact hR))
  | (refine comp_all (en2 := PySem.PyData.bool) ?_ (fun x hx => ?_) ?_; rotate_left 1; focus ((try have hx1 := Fact.use (by assumption) hx); (try have hx2 := mem_ints.mp hx); (try dsimp only at hx1); refine ⟨_, rfl, fun R hR => ?_, rfl⟩ <;> (repeat (walk_at "s")) <;> exact hR))
  | (refine comp_all (en2 := dP) ?_ (fun x hx => ?_) ?_; rotate_left 1; focus ((try have hx1 := Fact.use (by assumption) hx); (try have hx2 := mem_ints.mp hx); (try dsimp only at hx1); refine ⟨_, rfl, fun R hR => ?_, rfl⟩ <;> (repeat (walk_at "s")) <;> exact hR))
  | (refine comp_el (en2 := PySem.PyData.int) ?_ ?_ (fun x hx => ?_) ?_; rotate_left 2; focus ((try have hx1 := Fact.use (by assumption) hx); (try have hx2 := mem_ints.mp hx); (try dsimp only at hx1); refine ⟨_, rfl, fun R hR => ?_, fun hp R hR => ?_, rfl⟩ <;> (repeat (walk_at "s")) <;> exact hR))
  | (refine comp_el (en2 := dP) ?_ ?_ (fun x hx => ?_) ?_; rotate_left 2; focus ((try have hx1 := Fact.use (by assumption) hx); (try have hx2 := mem_ints.mp hx); (try dsimp only at hx1); refine ⟨_, rfl, fun R hR => ?_, fun hp R hR => ?_, rfl⟩ <;> (repeat (walk_at "s")) <;> exact hR))
  | (refine comp_el (en2 := PySem.PyData.bool) ?_ ?_ (fun x hx => ?_) ?_; rotate_left 2; focus ((try have hx1 := Fact.use (by assumption) hx); (try have hx2 := mem_ints.mp hx); (try dsimp only at hx1); refine ⟨_, rfl, fun R hR => ?_, fun hp R hR => ?_, rfl⟩ <;> (repeat (walk_at "s")) <;> exact hR))
  | (refine comp_allD (en2 := PySem.PyData.int) ?_ (fun x hx => ?_) ?_; rotate_left 1; focus ((try have hx1 := Fact.use (by assumption) hx); (try dsimp only at hx1); refine ⟨_, rfl, fun R hR => ?_, rfl⟩ <;> (repeat (walk_at "s")) <;> exact hR))
  | (refine comp_allD (en2 := PySem.PyData.bool) ?_ (fun x hx => ?_) ?_; rotate_left 1; focus ((try have hx1 := Fact.use (by assumption) hx); (try dsimp only at hx1); refine ⟨_, rfl, fun R hR => ?_, rfl⟩ <;> (repeat (walk_at "s")) <;> exact hR)))
local macro_rules | `(tactic| walk_at "runc") => `(tactic| (repeat (first | walk_at "s" | walk_at "comp")); try walk_at "env")
/-- as run, but stops ahead of an if -/
local macro_rules | `(tactic| walk_at "runI") => `(tactic| (repeat ((fail_if_success (with_reducible refine' i_if ?_)); walk_at "s")); try walk_at "env")
namespace Lib
open PySem
/-- is_hues: slots 0 web:r, 1 thing:r, 2 number:v, 3 a:v, 4 b:v; modes ['rd', 'rd']; answer fz -/
def wb_is_hues (S_is_whole : FS) : WS :=
  (wSeq (wIf (tOr (tNot (tVal (wOp1 (isTD "tuple") (wVar 1)))) (tOr (tVal (wOp2 neD (wBlt lenD (waCons (wVar 1) waNil)) (wOp2 ixD (wVar 0) (wC (.int 0))))) (tNot (tVal (wBlt allD (waCons (wComp (wiSeq (wVar 1)) (gN 2) [2] G7.tYes (wCall S_is_whole (waCons (wVar 2) waNil))) waNil)))))) (wRet (wC (.bool false))) wNil)
    (wRet (wBlt allD (waCons (wComp (wiSeq (wOp2 ixD (wVar 0) (wC (.int 1)))) (gT [(gN 3), (gN 4)]) [3, 4] G7.tYes (wOp2 neD (wOp2 ixD (wVar 1) (wVar 3)) (wOp2 ixD (wVar 1) (wVar 4)))) waNil))))
def hok (w : Web) (h : List Int) : Bool := w.ts.all fun t => !decide (gI h t.1 = gI h t.2)
def isHuesB (w : Web) : D → Bool
  | .tuple xs => if (xs.length : Int) = w.n then (match intsD xs with | some h => hok w h | none => false) else false
  | _ => false
theorem tyD_int {x : D} (h : (tyD x == "int") = true) : ∃ i, x = .int i := by
  cases x with
  | int i => exact ⟨i, rfl⟩
  | dict m => unfold tyD at h; split at h <;> first | (exact absurd h (by decide)) | (rename_i e; cases e)
  | _ => exact absurd h (by simp [tyD])
theorem intsD_ty : ∀ {xs : List D}, (xs.map fun x => tyD x == "int").all id = true → ∃ h, intsD xs = some h ∧ xs = h.map .int
  | [], _ => ⟨[], rfl, rfl⟩
  | x :: xs, h => by
    simp only [List.map_cons, List.all_cons, Bool.and_eq_true] at h
    obtain ⟨l, e1, e2⟩ := intsD_ty h.2
    obtain ⟨i, rfl⟩ := tyD_int h.1
    exact ⟨i :: l, by simp [intsD, e1], by rw [e2]; rfl⟩
theorem intsD_no : ∀ {xs : List D}, (xs.map fun x => tyD x == "int").all id = false → intsD xs = none
  | [], h => by simp at h
  | x :: xs, h => by
    simp only [List.map_cons, List.all_cons, Bool.and_eq_false_iff] at h
    cases x <;> simp only [intsD]
    rcases h with h | h
    · simp [tyD] at h
    · rw [intsD_no h]; rfl
def S_is_hues : FS := fun ds Post => ∃ w x, ds = [dW w, x] ∧ w.ok ∧ (tyD x = "tuple" → ∃ xs, x = .tuple xs ∧ xs.length ≤ 1000) ∧ Post (.bool (isHuesB w x))
theorem hok_all (w : Web) (h : List Int) : (w.ts.map fun t => !decide (gI h t.1 = gI h t.2)).all id = hok w h := by
  unfold hok
  rw [List.all_map]; rfl
theorem m_is_hues {rk : RK} : ∀ ds Post, S_is_hues ds Post → wb_is_hues S_l_sound { nx := fun _ => Post .none ∧ rk = .fz, rt := fun d _ => Post d } (startE 5 ds) := by
  rintro ds Post ⟨w, x, rfl, o, hx, hP⟩
  unfold wb_is_hues
  walk_at "start"
  by_cases hT : tyD x = "tuple"
  · obtain ⟨xs, rfl, hlx⟩ := hx hT
    walk_at "run"
    by_cases hl : (xs.length : Int) = w.n
    · walk_at "run"
      refine comp_allD (en2 := .bool) (fun x => tyD x == "int") (fun x _ => ⟨_, rfl, fun R hR => ?_, rfl⟩) ?_
      · walk_at "run"
        exact ⟨x, rfl, hR⟩
      walk_at "run"
      cases hc : (xs.map fun x => tyD x == "int").all id
      · walk_at "run"
        simpa [isHuesB, hl, intsD_no hc] using hP
      · obtain ⟨h, e1, rfl⟩ := intsD_ty hc
        have F : Fact w.ts fun t => 0 ≤ t.1 ∧ t.1 < t.2 ∧ t.2 < w.n := o.rg
        rw [List.length_map] at hl
        walk_at "runc"
        rw [hok_all]
        simpa [isHuesB, hl, e1] using hP
    · walk_at "run"
      simpa [isHuesB, hl] using hP
  · have e1 : isTD "tuple" x = some (.bool false) := by
      cases x <;> first | rfl | (exact absurd rfl hT) | skip
      rename_i m
      simp only [isTD, isT]
      have : (tyD (.dict m) == "tuple") = false := by simpa using hT
      simp [this]
    have e2 : isHuesB w x = false := by
      cases x <;> first | rfl | (exact absurd rfl hT)
    rw [e2] at hP
    walk_at "run"
    exact hP
theorem isHues_ti {w : Web} {h : List Int} (hl : (h.length : Int) = w.n) : isHuesB w (TI h) = hok w h := by
  simp [isHuesB, hl]
/-- _law_far: slots 0 pool:p, 1 found:v, 2 k:v; modes ['pl']; answer fz -/
def wb_l_far (S_l_next : FS) : WS :=
  (wSeq (wAsg 1 (wC (.int 0)))
    (wSeq (wFor (wiRg1 (wOp2 addD (wC (.int 1)) (wCall S_l_next (waCons (wVar 0) (waCons (wC (.int 3)) waNil))))) (gN 2) (wAsg 1 (wOp2 addD (wOp2 mulID (wVar 1) (wOp2 powD (wC (.int 10)) (wC (.int 6)))) (wCall S_l_next (waCons (wVar 0) (waCons (wOp2 powD (wC (.int 10)) (wC (.int 6))) waNil))))))
    (wRet (wVar 1))))
def S_l_far : FS := fun ds Post => ds = [.none] ∧ ∀ r : Int, Post (.int r)
theorem m_l_far {rk : RK} : ∀ ds Post, S_l_far ds Post → wb_l_far S_l_next { nx := fun _ => Post .none ∧ rk = .fz, rt := fun d _ => Post d } (startE 3 ds) := by
  rintro ds Post ⟨rfl, h⟩
  unfold wb_l_far
  walk_at "start"
  walk_at "run"
  refine next_i (by omega) (by omega) fun r h0 h1 => ?_
  walk_at "run"
  refine for_st [1, 2] (fun _ vs => ∃ a b, vs = [sI a, b]) [_, _] rfl ⟨_, _, rfl⟩ ?_ ?_
  · rintro pre x post _ hL ⟨a, b, rfl⟩ R hR
    walk_at "run"
    refine next_i (by omega) (by omega) fun r h0 h1 => ?_
    walk_at "run"
    exact hR [_, _] ⟨_, _, rfl⟩
  · rintro _ ⟨a, b, rfl⟩
    walk_at "run"
    exact h _
end Lib
namespace K12
open PySem Lib
def S_l_dig : FS := Lib.S_l_dig
theorem m_l_dig : ∀ ds Post, S_l_dig ds Post → wb_l_dig { nx := fun _ => Post .none ∧ RK.nw = .fz, rt := fun d _ => Post d } (startE 1 ds) := Lib.m_l_dig
def S_l_next : FS := Lib.S_l_next
theorem m_l_next : ∀ ds Post, S_l_next ds Post → wb_l_next { nx := fun _ => Post .none ∧ RK.fz = .fz, rt := fun d _ => Post d } (startE 5 ds) := Lib.m_l_next
def S_l_renamed : FS := Lib.S_l_renamed
theorem m_l_renamed : ∀ ds Post, S_l_renamed ds Post → wb_l_renamed { nx := fun _ => Post .none ∧ RK.fz = .fz, rt := fun d _ => Post d } (startE 5 ds) := Lib.m_l_renamed
def S_l_order : FS := Lib.S_l_order
theorem m_l_order : ∀ ds Post, S_l_order ds Post → wb_l_order S_l_next { nx := fun _ => Post .none ∧ RK.fz = .fz, rt := fun d _ => Post d } (startE 4 ds) := Lib.m_l_order
def S_l_web : FS := Lib.S_l_webC
theorem m_l_web : ∀ ds Post, S_l_web ds Post → wb_l_web S_l_next S_l_renamed S_l_order { nx := fun _ => Post .none ∧ RK.fz = .fz, rt := fun d _ => Post d } (startE 14 ds) := Lib.m_l_webT
def S_l_cell : FS := Lib.S_l_cell
theorem m_l_cell : ∀ ds Post, S_l_cell ds Post → wb_l_cell { nx := fun _ => Post .none ∧ RK.fz = .fz, rt := fun d _ => Post d } (startE 2 ds) := Lib.m_l_cell
def S_is_whole : FS := Lib.S_l_sound
theorem m_is_whole : ∀ ds Post, S_is_whole ds Post → wb_is_whole { nx := fun _ => Post .none ∧ RK.fz = .fz, rt := fun d _ => Post d } (startE 1 ds) := Lib.m_l_sound
def S_is_hues : FS := Lib.S_is_hues
theorem m_is_hues : ∀ ds Post, S_is_hues ds Post → wb_is_hues S_is_whole { nx := fun _ => Post .none ∧ RK.fz = .fz, rt := fun d _ => Post d } (startE 5 ds) := Lib.m_is_hues
theorem i_dictEn {w : WE} {e : En} {Q : D → En → Prop} (k : w e fun x e1 => ∃ xs, x = .tuple xs ∧ Q (.dict ((keysN xs.length).zip xs)) e1) : wDictEn w e Q := k
local macro_rules
  | `(tactic| walk_at "s") => `(tactic| with_reducible refine' i_dictEn ?_)
theorem str_small {r : Int} (h0 : 0 ≤ r) (h1 : r < 1000000000000000000) : strD [.int r] = some (.str (toString r)) := by
  refine if_pos ?_
  by_cases c : r.natAbs = 0
  · rw [c]; decide
  · have := (Nat.log2_lt c (k := 64)).mpr (by
      have h2 : r.natAbs < 1000000000000000000 := by omega
      exact Nat.lt_of_lt_of_le h2 (by decide))
    omega
theorem for_id {g : WG} {b : WS} {W : WD} {L : List D} {e : En} (k : forL g b W (L.map id) e) : forL g b W L e := by rwa [List.map_id] at k
def S_l_far : FS := fun ds Post => ds = [.none] ∧ ∀ r : Int, 0 ≤ r → r < 1000000000000000000 → Post (.int r)
theorem m_l_far : ∀ ds Post, S_l_far ds Post → wb_l_far S_l_next { nx := fun _ => Post .none ∧ RK.fz = .fz, rt := fun d _ => Post d } (startE 3 ds) := by
  rintro ds Post ⟨rfl, h⟩
  unfold wb_l_far
  walk_at "start"
  walk_at "run"
  refine next_i (by omega) (by omega) fun r h0 h1 => ?_
  walk_at "run"
  have hpre : ∀ pre x post, irng 0 (1 + r) = pre ++ x :: post → pre.length ≤ 2 := fun pre x post e => by
    have := congrArg List.length e
    rw [ints_len, List.length_append, List.length_cons] at this
    omega
  refine for_st [1, 2] (fun pre vs => ∃ (a : Int) (b : Option D), 0 ≤ a ∧ a < 1000000 ^ pre.length ∧ vs = [some (.int a), b]) [_, _] rfl ⟨0, _, by omega, by simp, rfl⟩ ?_ ?_
  · rintro pre x post _ hL ⟨a, b, a0, a1, rfl⟩ R hR
    have hp := hpre _ _ _ hL
    clear hL
    walk_at "run"
    refine next_i (by omega) (by omega) fun q q0 q1 => ?_
    walk_at "run"
    refine hR [_, _] ⟨_, _, ?_, ?_, rfl⟩
    · omega
    · rw [List.length_append, List.length_singleton, Int.pow_succ]
      generalize (1000000 : Int) ^ pre.length = P at *
      omega
  · rintro _ ⟨a, b, a0, a1, rfl⟩
    walk_at "run"
    refine h _ a0 (Int.lt_of_lt_of_le a1 ?_)
    rw [ints_len]
    have : (1 + r - 0).toNat = 1 ∨ (1 + r - 0).toNat = 2 ∨ (1 + r - 0).toNat = 3 := by omega
    rcases this with e | e | e <;> rw [e] <;> decide
def goodH (x : D) : Prop := tyD x = "tuple" → ∃ xs, x = .tuple xs ∧ xs.length ≤ 1000
def S_l_due : FS := fun ds Post => ∃ w x, ds = [dW w, x] ∧ w.ok ∧ goodH x ∧ Post (.bool (isHuesB w x))
theorem m_l_due : ∀ ds Post, S_l_due ds Post → wb_l_due { nx := fun _ => Post .none ∧ RK.fz = .fz, rt := fun d _ => Post d } (startE 5 ds) := by
  rintro ds Post ⟨w, x, rfl, o, hx, hP⟩
  unfold wb_l_due
  walk_at "start"
  by_cases hT : tyD x = "tuple"
  · obtain ⟨xs, rfl, hlx⟩ := hx hT
    walk_at "run"
    by_cases hl : (xs.length : Int) = w.n
    · walk_at "run"
      refine for_id ?_
      refine for_st (enc := id) (L := xs) [2] (fun pre vs => ∃ a : Option D, vs = [a] ∧ ∃ l : List Int, pre = l.map .int) [_] rfl ⟨_, rfl, [], rfl⟩ ?_ ?_
      · rintro pre y post _ hL ⟨a, rfl, l, rfl⟩ R hR
        have hy : y ∈ xs := by rw [hL]; simp
        walk_at "run"
        simp only [id_eq]
        cases hi : tyD y == "int"
        · have hno : isHuesB w (.tuple xs) = false := by
            have : intsD xs = none := intsD_no (by
              cases q : (xs.map fun x => tyD x == "int").all id with
              | false => rfl
              | true =>
                have := List.all_eq_true.mp q _ (List.mem_map.mpr ⟨y, hy, rfl⟩)
                simp [hi] at this)
            simp [isHuesB, this]
          rw [hno] at hP
          have d1 : isTD "int" y = some (.bool (tyD y == "bool")) := by simp [isTD, isT, hi]
          have d2 : isTD "bool" y = some (.bool (tyD y == "bool")) := by simp [isTD, isT]
          cases hb : tyD y == "bool"
          · rw [hb] at d1 d2
            walk_at "run"
            exact hP
          · rw [hb] at d1 d2
            walk_at "run"
            exact hP
        · obtain ⟨i, rfl⟩ := tyD_int hi
          have d1 : isTD "int" (.int i) = some (.bool true) := rfl
          have d2 : isTD "bool" (.int i) = some (.bool false) := rfl
          walk_at "run"
          exact hR [_] ⟨_, rfl, l ++ [i], by simp⟩
      · rintro _ ⟨a, rfl, l, rfl⟩
        rw [List.length_map] at hl
        rw [isHues_ti hl] at hP
        have F : Fact w.ts fun t => 0 ≤ t.1 ∧ t.1 < t.2 ∧ t.2 < w.n := o.rg
        walk_at "runc"
        rw [hok_all]
        exact hP
    · walk_at "run"
      simpa [isHuesB, hl] using hP
  · have e1 : isTD "tuple" x = some (.bool false) := by
      cases x <;> first | rfl | (exact absurd rfl hT) | skip
      rename_i m
      simp only [isTD, isT]
      have : (tyD (.dict m) == "tuple") = false := by simpa using hT
      simp [this]
    have e2 : isHuesB w x = false := by
      cases x <;> first | rfl | (exact absurd rfl hT)
    rw [e2] at hP
    walk_at "run"
    exact hP
def S_l_odd : FS := fun ds Post => ∃ h : List Int, ds = [.none, TI h] ∧ 1 ≤ h.length ∧ h.length ≤ 9 ∧ ∀ L : List D, L.length ≤ 100 → (∀ x ∈ L, goodH x) → Post (.list L)
theorem m_l_odd : ∀ ds Post, S_l_odd ds Post → wb_l_odd S_l_next S_l_far { nx := fun _ => Post .none ∧ RK.fz = .fz, rt := fun d _ => Post d } (startE 6 ds) := by
  rintro ds Post ⟨h, rfl, h1, h9, hP⟩
  unfold wb_l_odd
  walk_at "start"
  walk_at "run"
  refine next_i (by omega) (by omega) fun a a0 a1 => ?_
  walk_at "run"
  refine ⟨rfl, fun r r0 r1 => ?_⟩
  have hs := str_small r0 r1
  walk_at "run"
  refine i_ex (addD_tm (by simp only [List.length_take, List.length_drop]; omega)) ?_
  walk_at "run"
  refine i_ex (addD_t (ys := [.int r]) (by simp only [List.length_map, List.length_singleton]; omega)) ?_
  walk_at "run"
  refine ⟨_, rfl, ?_⟩
  walk_at "run"
  refine i_mut1 rfl (appendF_ok (Nat.lt_of_lt_of_le (Nat.lt_succ_self _) (Nat.le_of_ble_eq_true rfl))) ?_
  walk_at "run"
  have gt : ∀ l : List D, l.length ≤ 1000 → goodH (.tuple l) := fun l hl _ => ⟨l, rfl, hl⟩
  have gn : ∀ x : D, tyD x ≠ "tuple" → goodH x := fun x hx c => absurd c hx
  refine for_id ?_
  refine for_st (enc := (id : D → D)) [4, 5] (fun pre vs => ∃ (L : List D) (a : Option D), L.length ≤ 9 + pre.length ∧ (∀ x ∈ L, goodH x) ∧ vs = [some (.list L), a]) [_, _] rfl ⟨_, _, ?_, ?_, rfl⟩ ?_ ?_
  · simp
  · intro x hx
    simp only [List.mem_append, List.mem_cons, List.not_mem_nil, or_false] at hx
    rcases hx with (rfl | rfl | rfl | rfl | rfl | rfl | rfl | rfl) | rfl
    · exact gn _ (by simp [tyD])
    · exact gn _ (by simp [tyD])
    · exact gn _ (by simp [tyD])
    · exact gn _ (by simp [tyD])
    · exact gt _ (by simp only [List.length_map, List.length_append, List.length_take, List.length_drop]; omega)
    · exact gt _ (by simp only [List.length_map, List.length_append, List.length_singleton]; omega)
    · exact gt _ (by simp)
    · exact gt _ (by simp)
    · refine gn _ ?_
      obtain ⟨y, t, rfl⟩ := List.exists_cons_of_length_pos (l := h) (by omega)
      simp [keysN, List.range_succ_eq_map, tyD]
  · rintro pre y post _ hL ⟨L, a', hl, hg, rfl⟩ R hR
    have hpl : pre.length < 9 := by
      have := congrArg List.length hL
      simp at this
      omega
    clear hL
    walk_at "run"
    refine i_ex (addD_t (ys := [y]) (by simp only [List.length_map, List.length_take, List.length_singleton]; omega)) ?_
    walk_at "run"
    refine i_ex (addD_t (by simp only [List.length_append, List.length_map, List.length_take, List.length_drop, List.length_singleton]; omega)) ?_
    walk_at "run"
    refine i_mut1 rfl (appendF_ok (by omega)) ?_
    walk_at "run"
    refine hR [_, _] ⟨_, _, ?_, ?_, rfl⟩
    · rw [List.length_append, List.length_append, List.length_singleton, List.length_singleton]; omega
    · intro x hx
      rcases List.mem_append.mp hx with hx | hx
      · exact hg x hx
      · rw [List.mem_singleton.mp hx]
        exact gt _ (by simp only [List.length_append, List.length_map, List.length_take, List.length_drop, List.length_singleton]; omega)
  · rintro _ ⟨L, a', hl, hg, rfl⟩
    walk_at "run"
    exact hP L (by simp at hl; omega) hg
theorem hok_perm {w : Web} (o : w.ok) {ps : List Int} (hp : ps.Perm (irng 0 w.n)) : hok w ps = true := by
  have hl := hp.length_eq
  rw [ints_len] at hl
  have nd : ps.Nodup := hp.nodup_iff.mpr ((ints_sorted _ _).imp fun h => by omega)
  refine List.all_eq_true.mpr fun t ht => ?_
  have hr := o.rg t ht
  have : ¬ gI ps t.1 = gI ps t.2 := fun e => by
    unfold gI at e
    rw [getElem!_pos ps t.1.toNat (by omega), getElem!_pos ps t.2.toNat (by omega)] at e
    have := (List.nodup_iff_pairwise_ne.mp nd)
    have h3 := List.pairwise_iff_getElem.mp this t.1.toNat t.2.toNat (by omega) (by omega) (by omega)
    exact h3 e
  exact (by rw [decide_eq_false this]; rfl)
theorem m_law : ∀ ds Post, lawS ds Post → wb_law S_l_dig S_l_cell S_l_web S_l_order S_is_hues S_l_odd S_l_due { nx := fun _ => Post .none ∧ RK.fz = .fz, rt := fun d _ => Post d } (startE 7 ds) := by
  rintro ds Post ⟨ns, rfl, hl, h⟩
  unfold wb_law
  walk_at "start"
  walk_at "run"
  refine for_ev (enc := .int) (fun _ e => ∃ a1 a2 a3 a4 a5 a6, e = [some (LI ns), a1, a2, a3, a4, a5, a6]) ⟨_, _, _, _, _, _, rfl⟩ ?_ ?_
  · rintro pre x post _ hL ⟨a1, a2, a3, a4, a5, a6, rfl⟩ R hR
    have hx := mem_ints.mp (show x ∈ irng 0 _ by rw [hL]; simp)
    have hx2 : x < 64 := by have := hx.2; revert this; (repeat' split) <;> omega
    have hx0 := hx.1
    clear hL hx
    obtain ⟨x, rfl⟩ : ∃ n : Nat, x = n := ⟨x.toNat, by omega⟩
    have hR := fun a1 a2 a3 a4 a5 a6 => hR _ ⟨a1, a2, a3, a4, a5, a6, rfl⟩
    walk_at "run"
    refine ⟨ns, x, rfl, by omega, fun c => ?_⟩
    walk_at "run"
    refine ⟨c, rfl, fun x1 x2 x3 => ?_⟩
    walk_at "run"
    refine ⟨x1, x2, x3, rfl, ?_⟩
    walk_at "run"
    refine ⟨9, 20, rfl, by omega, by omega, by omega, by omega, fun w o _ _ => ?_⟩
    have n1 := o.n1
    have n9 := o.n9
    walk_at "run"
    refine ⟨w.n, rfl, by omega, by omega, fun ps hps => ?_⟩
    have hpl := hps.length_eq
    rw [ints_len] at hpl
    walk_at "run"
    refine ⟨w, _, rfl, o, fun _ => ⟨_, rfl, by rw [List.length_map]; omega⟩, ?_⟩
    rw [isHues_ti (by omega), hok_perm o hps]
    walk_at "run"
    refine ⟨ps, rfl, by omega, by omega, fun L hL1 hL2 => ?_⟩
    walk_at "run"
    refine for_id ?_
    refine for_ev (enc := (id : D → D)) (fun _ e => ∃ a5 a6, e = [some (LI ns), some (.int x), some .none, some (dW w), some (TI ps), a5, a6]) ⟨_, _, rfl⟩ ?_ ?_
    · rintro pre2 y post2 _ hL ⟨a5, a6, rfl⟩ R2 hR2
      have hy := hL2 y (by rw [hL]; simp)
      clear hL
      have hR2 := fun a5 a6 => hR2 _ ⟨a5, a6, rfl⟩
      walk_at "run"
      refine ⟨w, y, rfl, o, hy, ?_⟩
      walk_at "run"
      refine ⟨w, y, rfl, o, hy, ?_⟩
      have hb : (!isHuesB w y == isHuesB w y) = false := by simp
      walk_at "run"
      exact hR2 _ _
    · rintro _ ⟨a5, a6, rfl⟩
      exact hR _ _ _ _ _ _
  · rintro _ ⟨a1, a2, a3, a4, a5, a6, rfl⟩
    walk_at "run"
    exact h

end K12
end G7
set_option maxRecDepth 100000
set_option maxHeartbeats 4000000
namespace G7
namespace K12
open PySem PySem.Spec PyProof.Rows L2
def topS (i : Nat) : Stmt := PySem.Challenge.pw_rillturn_k12_what_are_no_hues.main.body.getD i (.Pass ⟨0, 0, 0, 0⟩)
structure TX (mg : Str → Option Value) : Prop where
  b_all : mg "all" = none
  b_bool : mg "bool" = none
  b_dict : mg "dict" = none
  b_enumerate : mg "enumerate" = none
  b_int : mg "int" = none
  b_isinstance : mg "isinstance" = none
  b_len : mg "len" = none
  b_list : mg "list" = none
  b_max : mg "max" = none
  b_min : mg "min" = none
  b_range : mg "range" = none
  b_sorted : mg "sorted" = none
  b_str : mg "str" = none
  b_tuple : mg "tuple" = none
abbrev s_l_dig : Stmt := topS 6
abbrev N_l_dig : List Str := ["cell"]
abbrev k_l_dig : List SK := [.r]
theorem sc_l_dig : FnScope N_l_dig ["cell"] (defScope s_l_dig) := ⟨rfl, rfl, rfl, by decide +kernel, rfl, by decide +kernel, by decide +kernel⟩
theorem b_l_dig {P : Program} {w : World} {K : PySem.W.Frag} {mg : Str → Option Value} {base : Heap} (T : TX mg) {f : Addr} (cdv : Value) (A : Around) (outer : List Env) (s : Shared) (H : Hp) (E : XK) (hr : Room 0 (A.deeper (envOfC "_law_dig" (defScope s_l_dig) s.heap.objs.size f cdv))) :
    SSs (cxOf CX0 P w K mg base N_l_dig "_law_dig" (defScope s_l_dig) f cdv A outer s H E).nox k_l_dig [] .nw (defBody s_l_dig) (wb_l_dig) :=
  (sss_one (ss_retw (Me := []) (se_lst (sa_cons (se_blt (call_max2 rfl) bd_max2 (by rfl) T.b_max bt_max (sa_cons se_int (sa_cons (se_bin op_sub od_sub (se_r (pv 0) rfl) (se_bin op_pow od_pow se_int se_int)) sa_nil))) (sa_cons (se_bin op_mod od_mod (se_r (pv 0) rfl) (se_bin op_pow od_pow se_int se_int)) (sa_cons se_int sa_nil))))))
theorem g_l_dig {P : Program} {w : World} {K : PySem.W.Frag} {mg : Str → Option Value} {base : Heap} {f : Addr} {fd : FuncData} (T : TX mg) (F : Fun K "_law_dig" "_law_dig" s_l_dig f fd) (hm : mg "_law_dig" = some (.ref f)) : FnB P w K mg base 1 "_law_dig" ["cell"] [.rd] .nw S_l_dig :=
  ⟨f, fd, fn_def [.rd] F sc_l_dig rfl rfl rfl (by first | exact .inl rfl | exact .inr rfl) (by intro i; match i with | i => exact noq (by decide) i) (b_l_dig T) m_l_dig, hm, F.kp, F.binds fun _ _ _ _ _ _ us hl => match us, hl with | [_], _ => rfl⟩
abbrev s_l_next : Stmt := topS 7
abbrev N_l_next : List Str := ["pool", "base", "digit", "mixed", "stir"]
abbrev k_l_next : List SK := [.p, .r, .v, .v, .v]
theorem sc_l_next : FnScope N_l_next ["pool", "base"] (defScope s_l_next) := ⟨rfl, rfl, rfl, by decide +kernel, rfl, by decide +kernel, by decide +kernel⟩
theorem b_l_next {P : Program} {w : World} {K : PySem.W.Frag} {mg : Str → Option Value} {base : Heap} (T : TX mg) {f : Addr} (cdv : Value) (A : Around) (outer : List Env) (s : Shared) (H : Hp) (E : XK) (hr : Room 0 (A.deeper (envOfC "_law_next" (defScope s_l_next) s.heap.objs.size f cdv))) :
    SSs (cxOf CX0 P w K mg base N_l_next "_law_next" (defScope s_l_next) f cdv A outer s H E).nox k_l_next [] .fz (defBody s_l_next) (wb_l_next) :=
  (sss_cons (ss_if (Me := []) (st_cmp op_gt od_gt (se_plix (pv 0) rfl) se_int (nomark _)) (sss_cons (ss_set (Me := []) (i := 2) sc_l_next.nd rfl (by first | exact Or.inl rfl | exact Or.inr rfl) (se_bin op_mod od_mod (se_plix (pv 0) rfl) (se_r (pv 1) rfl)) rfl)
      (sss_cons (ss_plset (Me := []) (pv 0) (se_bin op_fdiv od_fdiv (se_plix (pv 0) rfl) (se_r (pv 1) rfl)) rfl)
      (sss_one (ss_ret (Me := []) (se_v (pv 2) rfl))))) sss_nil)
      (sss_cons (ss_plset (Me := []) (pv 0) (se_bin op_addF od_add (se_plix (pv 0) rfl) se_int) rfl)
      (sss_cons (ss_set (Me := []) (i := 3) sc_l_next.nd rfl (by first | exact Or.inl rfl | exact Or.inr rfl) (se_bin op_mod od_mod (se_bin op_addF od_add (se_plix (pv 0) rfl) (se_bin op_mul od_mulI se_int (se_plix (pv 0) rfl))) se_int) rfl)
      (sss_cons (ss_set (Me := []) (i := 4) sc_l_next.nd rfl (by first | exact Or.inl rfl | exact Or.inr rfl) (se_bin op_mod od_mod (se_bin op_mul od_mulI (se_bin op_addF od_add (se_v (pv 3) rfl) se_int) (se_bin op_addF od_add (se_v (pv 3) rfl) se_int)) se_int) rfl)
      (sss_one (ss_ret (Me := []) (se_bin op_mod od_mod (se_bin op_fdiv od_fdiv (se_bin op_mod od_mod (se_bin op_mul od_mulI (se_v (pv 4) rfl) (se_v (pv 4) rfl)) se_int) se_int) (se_r (pv 1) rfl))))))))
theorem g_l_next {P : Program} {w : World} {K : PySem.W.Frag} {mg : Str → Option Value} {base : Heap} {f : Addr} {fd : FuncData} (T : TX mg) (F : Fun K "_law_next" "_law_next" s_l_next f fd) (hm : mg "_law_next" = some (.ref f)) : FnB P w K mg base 1 "_law_next" ["pool", "base"] [.pl, .rd] .fz S_l_next :=
  ⟨f, fd, fn_def [.pl, .rd] F sc_l_next rfl rfl rfl (by first | exact .inl rfl | exact .inr rfl) (by intro i; match i with | i => exact noq (by decide) i) (b_l_next T) m_l_next, hm, F.kp, F.binds fun _ _ _ _ _ _ us hl => match us, hl with | [_, _], _ => rfl⟩
abbrev s_l_renamed : Stmt := topS 11
abbrev N_l_renamed : List Str := ["web", "names", "ties", "a", "b"]
abbrev k_l_renamed : List SK := [.r, .r, .v, .v, .v]
theorem sc_l_renamed : FnScope N_l_renamed ["web", "names"] (defScope s_l_renamed) := ⟨rfl, rfl, rfl, by decide +kernel, rfl, by decide +kernel, by decide +kernel⟩
theorem b_l_renamed {P : Program} {w : World} {K : PySem.W.Frag} {mg : Str → Option Value} {base : Heap} (T : TX mg) {f : Addr} (cdv : Value) (A : Around) (outer : List Env) (s : Shared) (H : Hp) (E : XK) (hr : Room 0 (A.deeper (envOfC "_law_renamed" (defScope s_l_renamed) s.heap.objs.size f cdv))) :
    SSs (cxOf CX0 P w K mg base N_l_renamed "_law_renamed" (defScope s_l_renamed) f cdv A outer s H E).nox k_l_renamed [] .fz (defBody s_l_renamed) (wb_l_renamed) :=
  (sss_cons (ss_lcV (M := []) (i := 2) rfl sc_l_renamed.nd rfl rfl (sw_true rfl rfl rfl (by decide +kernel)) (si_seq (se_ix ix_seq od_ix (se_r (pv 0) rfl) se_int (fun _ _ => rfl))) (own := [("a", 3), ("b", 4)]) (blkOk_by (by kernel_rfl)) (fun _ _ _ _ _ => (sg_tup rfl (sgs_cons (sg_name (pg_name (i := 3) sc_l_renamed.nd rfl (by first | exact Or.inl rfl | exact Or.inr rfl)) rfl) (sgs_cons (sg_name (pg_name (i := 4) sc_l_renamed.nd rfl (by first | exact Or.inl rfl | exact Or.inr rfl)) rfl) sgs_nil)))) (fun _ _ _ _ _ => sp_nil) (fun _ _ _ _ _ => (se_tup (sa_cons (se_blt (call_min2 rfl) bd_min2 (by rfl) T.b_min bt_min (sa_cons (se_ix ix_seq od_ix (se_r (pv 1) rfl) (se_v (pv 3) rfl) (fun _ _ => rfl)) (sa_cons (se_ix ix_seq od_ix (se_r (pv 1) rfl) (se_v (pv 4) rfl) (fun _ _ => rfl)) sa_nil))) (sa_cons (se_blt (call_max2 rfl) bd_max2 (by rfl) T.b_max bt_max (sa_cons (se_ix ix_seq od_ix (se_r (pv 1) rfl) (se_v (pv 3) rfl) (fun _ _ => rfl)) (sa_cons (se_ix ix_seq od_ix (se_r (pv 1) rfl) (se_v (pv 4) rfl) (fun _ _ => rfl)) sa_nil))) sa_nil)))))
      (sss_one (ss_ret (Me := []) (se_tup (sa_cons (se_ix ix_seq od_ix (se_r (pv 0) rfl) se_int (fun _ _ => rfl)) (sa_cons (se_bty call_tupleM bd_tup (by rfl) T.b_tuple bt_tuple (sa_cons (se_blt cr_sortedA bd_sortedA (by rfl) T.b_sorted bt_sorted (sa_cons (se_v (pv 2) rfl) sa_nil)) sa_nil)) sa_nil))))))
theorem g_l_renamed {P : Program} {w : World} {K : PySem.W.Frag} {mg : Str → Option Value} {base : Heap} {f : Addr} {fd : FuncData} (T : TX mg) (F : Fun K "_law_renamed" "_law_renamed" s_l_renamed f fd) (hm : mg "_law_renamed" = some (.ref f)) : FnB P w K mg base 1 "_law_renamed" ["web", "names"] [.rd, .rd] .fz S_l_renamed :=
  ⟨f, fd, fn_def [.rd, .rd] F sc_l_renamed rfl rfl rfl (by first | exact .inl rfl | exact .inr rfl) (by intro i; match i with | i => exact noq (by decide) i) (b_l_renamed T) m_l_renamed, hm, F.kp, F.binds fun _ _ _ _ _ _ us hl => match us, hl with | [_, _], _ => rfl⟩
abbrev s_l_order : Stmt := topS 10
abbrev N_l_order : List Str := ["pool", "many", "left", "k"]
abbrev k_l_order : List SK := [.p, .r, .o, .v]
theorem sc_l_order : FnScope N_l_order ["pool", "many"] (defScope s_l_order) := ⟨rfl, rfl, rfl, by decide +kernel, rfl, by decide +kernel, by decide +kernel⟩
theorem b_l_order {P : Program} {w : World} {K : PySem.W.Frag} {mg : Str → Option Value} {base : Heap} (T : TX mg) (G_l_next : FnB P w K mg base 1 "_law_next" ["pool", "base"] [.pl, .rd] .fz S_l_next) {f : Addr} (cdv : Value) (A : Around) (outer : List Env) (s : Shared) (H : Hp) (E : XK) (hr : Room 1 (A.deeper (envOfC "_law_order" (defScope s_l_order) s.heap.objs.size f cdv))) :
    SSs (cxOf CX0 P w K mg base N_l_order "_law_order" (defScope s_l_order) f cdv A outer s H E).nox k_l_order [2] .fz (defBody s_l_order) (wb_l_order S_l_next) :=
  (sss_cons (ss_setO (Me := []) (i := 2) sc_l_order.nd rfl (by first | exact Or.inl rfl | exact Or.inr rfl) (se_lstRg1 (by rfl) T.b_list (by rfl) T.b_range (se_r (pv 1) rfl)) rfl)
      (sss_one (ss_ret (Me := [2]) (se_bty call_tupleM bd_tup (by rfl) T.b_tuple bt_tuple (sa_cons (se_lc rfl sc_l_order.nd (si_rg1 (by rfl) T.b_range (se_r (pv 1) rfl)) (own := [("k", 3)]) (blkOk_by (by kernel_rfl)) (fun _ _ _ _ _ => (sg_name (pg_name (i := 3) sc_l_order.nd rfl (by first | exact Or.inl rfl | exact Or.inr rfl)) rfl)) (fun _ _ _ _ _ => sp_nil) (fun _ _ _ _ _ => (se_mut (Ma := []) PySem.F.slot_list_pop PySem.F.type_list_pop mt_popAt md_popAt (pv 2) (sa_cons (se_fn G_l_next hr (by rfl) (sa_cons (se_p (pv 0) rfl) (sa_cons (se_blt call_len_seq bd_len (by rfl) T.b_len bt_len (sa_cons (se_o (pv 2) rfl) sa_nil)) sa_nil))) sa_nil) (Or.inl rfl)))) sa_nil)))))
theorem g_l_order {P : Program} {w : World} {K : PySem.W.Frag} {mg : Str → Option Value} {base : Heap} {f : Addr} {fd : FuncData} (T : TX mg) (G_l_next : FnB P w K mg base 1 "_law_next" ["pool", "base"] [.pl, .rd] .fz S_l_next) (F : Fun K "_law_order" "_law_order" s_l_order f fd) (hm : mg "_law_order" = some (.ref f)) : FnB P w K mg base 2 "_law_order" ["pool", "many"] [.pl, .rd] .fz S_l_order :=
  ⟨f, fd, fn_def [.pl, .rd] F sc_l_order rfl rfl rfl (by first | exact .inl rfl | exact .inr rfl) (by intro i; match i with | i => exact noq (by decide) i) (b_l_order T G_l_next) m_l_order, hm, F.kp, F.binds fun _ _ _ _ _ _ us hl => match us, hl with | [_, _], _ => rfl⟩
abbrev s_l_web : Stmt := topS 9
abbrev N_l_web : List Str := ["pool", "most", "cap", "many", "pairs", "b", "way", "first", "size", "dense", "more", "a", "k", "pair"]
abbrev k_l_web : List SK := [.p, .r, .r, .v, .v, .v, .v, .v, .v, .v, .o, .v, .v, .v]
theorem sc_l_web : FnScope N_l_web ["pool", "most", "cap"] (defScope s_l_web) := ⟨rfl, rfl, rfl, by decide +kernel, rfl, by decide +kernel, by decide +kernel⟩
theorem b_l_web {P : Program} {w : World} {K : PySem.W.Frag} {mg : Str → Option Value} {base : Heap} (T : TX mg) (G_l_next : FnB P w K mg base 1 "_law_next" ["pool", "base"] [.pl, .rd] .fz S_l_next) (G_l_renamed : FnB P w K mg base 1 "_law_renamed" ["web", "names"] [.rd, .rd] .fz S_l_renamed) (G_l_order : FnB P w K mg base 2 "_law_order" ["pool", "many"] [.pl, .rd] .fz S_l_order) {f : Addr} (cdv : Value) (A : Around) (outer : List Env) (s : Shared) (H : Hp) (E : XK) (hr : Room 2 (A.deeper (envOfC "_law_web" (defScope s_l_web) s.heap.objs.size f cdv))) :
    SSs (cxOf CX0 P w K mg base N_l_web "_law_web" (defScope s_l_web) f cdv A outer s H E).nox k_l_web [10] .fz (defBody s_l_web) (wb_l_web S_l_next S_l_renamed S_l_order) :=
  (sss_cons (ss_set (Me := []) (i := 3) sc_l_web.nd rfl (by first | exact Or.inl rfl | exact Or.inr rfl) (se_bin op_addF od_add se_int (se_fn G_l_next hr (by rfl) (sa_cons (se_p (pv 0) rfl) (sa_cons (se_r (pv 1) rfl) sa_nil)))) rfl)
      (sss_cons (ss_set (Me := []) (i := 4) sc_l_web.nd rfl (by first | exact Or.inl rfl | exact Or.inr rfl) (SE.nf (se_lst sa_nil)) rfl)
      (sss_cons (ss_for (Me := []) PassesOwn.never rfl (si_rg1 (by rfl) T.b_range (se_v (pv 3) rfl)) (sg_name (pg_name (i := 5) sc_l_web.nd rfl (by first | exact Or.inl rfl | exact Or.inr rfl)) rfl) (sss_one (ss_set (Me := []) (i := 4) sc_l_web.nd rfl (by first | exact Or.inl rfl | exact Or.inr rfl) (se_bin op_addF od_add (se_v (pv 4) rfl) (se_lc rfl sc_l_web.nd (si_rg1 (by rfl) T.b_range (se_v (pv 5) rfl)) (own := [("a", 11)]) (blkOk_by (by kernel_rfl)) (fun _ _ _ _ _ => (sg_name (pg_name (i := 11) sc_l_web.nd rfl (by first | exact Or.inl rfl | exact Or.inr rfl)) rfl)) (fun _ _ _ _ _ => sp_nil) (fun _ _ _ _ _ => (se_tup (sa_cons (se_v (pv 11) rfl) (sa_cons (se_v (pv 5) rfl) sa_nil)))))) rfl)))
      (sss_cons (ss_set (Me := []) (i := 6) sc_l_web.nd rfl (by first | exact Or.inl rfl | exact Or.inr rfl) (se_fn G_l_next hr (by rfl) (sa_cons (se_p (pv 0) rfl) (sa_cons se_int sa_nil))) rfl)
      (sss_cons (ss_set (Me := []) (i := 7) sc_l_web.nd rfl (by first | exact Or.inl rfl | exact Or.inr rfl) (SE.nf (se_lst sa_nil)) rfl)
      (sss_cons (ss_if (Me := []) (SW.st (sw_and (st_cmp (op_eqD hr.units) od_eq (se_v (pv 6) rfl) se_int (nomark _)) (sw_and1 (st_cmp op_gt od_gt (se_v (pv 3) rfl) se_int (nomark _))))) (sss_one (ss_set (Me := []) (i := 7) sc_l_web.nd rfl (by first | exact Or.inl rfl | exact Or.inr rfl) (SE.nf (se_lc rfl sc_l_web.nd (si_rg2 (by rfl) T.b_range se_int (se_v (pv 3) rfl)) (own := [("b", 5)]) (blkOk_by (by kernel_rfl)) (fun _ _ _ _ _ => (sg_name (pg_name (i := 5) sc_l_web.nd rfl (by first | exact Or.inl rfl | exact Or.inr rfl)) rfl)) (fun _ _ _ _ _ => sp_nil) (fun _ _ _ _ _ => (se_tup (sa_cons (se_fn G_l_next hr (by rfl) (sa_cons (se_p (pv 0) rfl) (sa_cons (se_v (pv 5) rfl) sa_nil))) (sa_cons (se_v (pv 5) rfl) sa_nil)))))) rfl)) sss_nil)
      (sss_cons (ss_if (Me := []) (st_cmp (op_eqD hr.units) od_eq (se_v (pv 6) rfl) se_int (nomark _)) (sss_one (ss_set (Me := []) (i := 7) sc_l_web.nd rfl (by first | exact Or.inl rfl | exact Or.inr rfl) (SE.nf (se_lc rfl sc_l_web.nd (si_rg1 (by rfl) T.b_range (se_v (pv 3) rfl)) (own := [("k", 12)]) (blkOk_by (by kernel_rfl)) (fun _ _ _ _ _ => (sg_name (pg_name (i := 12) sc_l_web.nd rfl (by first | exact Or.inl rfl | exact Or.inr rfl)) rfl)) (fun _ _ _ _ _ => (sp_one (st_cmp op_gt od_gt (se_v (pv 3) rfl) se_int (nomark _)))) (fun _ _ _ _ _ => (se_tup (sa_cons (se_blt (call_min2 rfl) bd_min2 (by rfl) T.b_min bt_min (sa_cons (se_v (pv 12) rfl) (sa_cons (se_bin op_mod od_mod (se_bin op_addF od_add (se_v (pv 12) rfl) se_int) (se_v (pv 3) rfl)) sa_nil))) (sa_cons (se_blt (call_max2 rfl) bd_max2 (by rfl) T.b_max bt_max (sa_cons (se_v (pv 12) rfl) (sa_cons (se_bin op_mod od_mod (se_bin op_addF od_add (se_v (pv 12) rfl) se_int) (se_v (pv 3) rfl)) sa_nil))) sa_nil)))))) rfl)) sss_nil)
      (sss_cons (ss_if (Me := []) (st_cmp (op_eqD hr.units) od_eq (se_v (pv 6) rfl) se_int (nomark _)) (sss_cons (ss_set (Me := []) (i := 8) sc_l_web.nd rfl (by first | exact Or.inl rfl | exact Or.inr rfl) (se_bin op_addF od_add se_int (se_fn G_l_next hr (by rfl) (sa_cons (se_p (pv 0) rfl) (sa_cons se_int sa_nil)))) rfl)
      (sss_one (ss_set (Me := []) (i := 7) sc_l_web.nd rfl (by first | exact Or.inl rfl | exact Or.inr rfl) (SE.nf (se_lc rfl sc_l_web.nd (si_seq (se_v (pv 4) rfl)) (own := [("pair", 13)]) (blkOk_by (by kernel_rfl)) (fun _ _ _ _ _ => (sg_name (pg_name (i := 13) sc_l_web.nd rfl (by first | exact Or.inl rfl | exact Or.inr rfl)) rfl)) (fun _ _ _ _ _ => (sp_one (st_cmp (op_ltF hr.units0) od_lt (se_ix ix_seq od_ix (se_v (pv 13) rfl) se_int (fun _ _ => rfl)) (se_v (pv 8) rfl) (nomark _)))) (fun _ _ _ _ _ => (se_v (pv 13) rfl)))) rfl))) sss_nil)
      (sss_cons (ss_set (Me := []) (i := 9) sc_l_web.nd rfl (by first | exact Or.inl rfl | exact Or.inr rfl) (se_ix ix_seq od_ix (se_lst (sa_cons se_int (sa_cons se_int (sa_cons se_int (sa_cons se_int sa_nil))))) (se_fn G_l_next hr (by rfl) (sa_cons (se_p (pv 0) rfl) (sa_cons se_int sa_nil))) (fun _ _ => rfl)) rfl)
      (sss_cons (ss_lcO (M := []) (i := 10) rfl sc_l_web.nd rfl rfl (sw_true rfl rfl rfl (by decide +kernel)) (si_seq (se_v (pv 4) rfl)) (own := [("pair", 13)]) (blkOk_by (by kernel_rfl)) (fun _ _ _ _ _ => (sg_name (pg_name (i := 13) sc_l_web.nd rfl (by first | exact Or.inl rfl | exact Or.inr rfl)) rfl)) (fun _ _ _ _ _ => (sp_one (SW.st (sw_and (st_cmp (op_notInF (room65 hr)) od_notIn (se_v (pv 13) rfl) (se_v (pv 7) rfl) (by with_unfolding_all rfl)) (sw_and1 (st_cmp (op_eqD hr.units) od_eq (se_fn G_l_next hr (by rfl) (sa_cons (se_p (pv 0) rfl) (sa_cons (se_v (pv 9) rfl) sa_nil))) se_int (nomark _))))))) (fun _ _ _ _ _ => (se_v (pv 13) rfl)))
      (sss_cons (ss_while (Me := []) PassesOwn.never (SW.st (sw_and (st_cmp op_gt od_gt (se_bin op_addF od_add (se_blt call_len_seq bd_len (by rfl) T.b_len bt_len (sa_cons (se_v (pv 7) rfl) sa_nil)) (se_blt call_len_seq bd_len (by rfl) T.b_len bt_len (sa_cons (se_o (pv 10) rfl) sa_nil))) (se_r (pv 2) rfl) (nomark _)) (sw_and1 (st_cmp (op_neD hr.units) od_ne (se_o (pv 10) rfl) (se_lst sa_nil) (nomark _))))) (sss_one (ss_expr (Me := [10]) (se_mut (Ma := []) PySem.F.slot_list_pop PySem.F.type_list_pop mt_popAt md_popAt (pv 10) (sa_cons (se_fn G_l_next hr (by rfl) (sa_cons (se_p (pv 0) rfl) (sa_cons (se_blt call_len_seq bd_len (by rfl) T.b_len bt_len (sa_cons (se_o (pv 10) rfl) sa_nil)) sa_nil))) sa_nil) (Or.inl rfl)))))
      (sss_one (ss_ret (Me := []) (se_fn G_l_renamed hr (by rfl) (sa_cons (se_tup (sa_cons (se_v (pv 3) rfl) (sa_cons (se_bty call_tupleM bd_tup (by rfl) T.b_tuple bt_tuple (sa_cons (se_blt cr_sortedA bd_sortedA (by rfl) T.b_sorted bt_sorted (sa_cons (se_bin op_addF od_add (se_sl sl_F sd_F (se_v (pv 7) rfl) so_n (so_s (se_r (pv 2) rfl))) (se_o (pv 10) rfl)) sa_nil)) sa_nil)) sa_nil))) (sa_cons (se_fn G_l_order hr (by rfl) (sa_cons (se_p (pv 0) rfl) (sa_cons (se_v (pv 3) rfl) sa_nil))) sa_nil))))))))))))))))
theorem g_l_web {P : Program} {w : World} {K : PySem.W.Frag} {mg : Str → Option Value} {base : Heap} {f : Addr} {fd : FuncData} (T : TX mg) (G_l_next : FnB P w K mg base 1 "_law_next" ["pool", "base"] [.pl, .rd] .fz S_l_next) (G_l_renamed : FnB P w K mg base 1 "_law_renamed" ["web", "names"] [.rd, .rd] .fz S_l_renamed) (G_l_order : FnB P w K mg base 2 "_law_order" ["pool", "many"] [.pl, .rd] .fz S_l_order) (F : Fun K "_law_web" "_law_web" s_l_web f fd) (hm : mg "_law_web" = some (.ref f)) : FnB P w K mg base 3 "_law_web" ["pool", "most", "cap"] [.pl, .rd, .rd] .fz S_l_web :=
  ⟨f, fd, fn_def [.pl, .rd, .rd] F sc_l_web rfl rfl rfl (by first | exact .inl rfl | exact .inr rfl) (by intro i; match i with | i => exact noq (by decide) i) (b_l_web T G_l_next G_l_renamed G_l_order) m_l_web, hm, F.kp, F.binds fun _ _ _ _ _ _ us hl => match us, hl with | [_, _, _], _ => rfl⟩
abbrev s_l_far : Stmt := topS 8
abbrev N_l_far : List Str := ["pool", "found", "k"]
abbrev k_l_far : List SK := [.p, .v, .v]
theorem sc_l_far : FnScope N_l_far ["pool"] (defScope s_l_far) := ⟨rfl, rfl, rfl, by decide +kernel, rfl, by decide +kernel, by decide +kernel⟩
theorem b_l_far {P : Program} {w : World} {K : PySem.W.Frag} {mg : Str → Option Value} {base : Heap} (T : TX mg) (G_l_next : FnB P w K mg base 1 "_law_next" ["pool", "base"] [.pl, .rd] .fz S_l_next) {f : Addr} (cdv : Value) (A : Around) (outer : List Env) (s : Shared) (H : Hp) (E : XK) (hr : Room 1 (A.deeper (envOfC "_law_far" (defScope s_l_far) s.heap.objs.size f cdv))) :
    SSs (cxOf CX0 P w K mg base N_l_far "_law_far" (defScope s_l_far) f cdv A outer s H E).nox k_l_far [] .fz (defBody s_l_far) (wb_l_far S_l_next) :=
  (sss_cons (ss_set (Me := []) (i := 1) sc_l_far.nd rfl (by first | exact Or.inl rfl | exact Or.inr rfl) se_int rfl)
      (sss_cons (ss_for (Me := []) PassesOwn.never rfl (si_rg1 (by rfl) T.b_range (se_bin op_addF od_add se_int (se_fn G_l_next hr (by rfl) (sa_cons (se_p (pv 0) rfl) (sa_cons se_int sa_nil))))) (sg_name (pg_name (i := 2) sc_l_far.nd rfl (by first | exact Or.inl rfl | exact Or.inr rfl)) rfl) (sss_one (ss_set (Me := []) (i := 1) sc_l_far.nd rfl (by first | exact Or.inl rfl | exact Or.inr rfl) (se_bin op_addF od_add (se_bin op_mul od_mulI (se_v (pv 1) rfl) (se_bin op_pow od_pow se_int se_int)) (se_fn G_l_next hr (by rfl) (sa_cons (se_p (pv 0) rfl) (sa_cons (se_bin op_pow od_pow se_int se_int) sa_nil)))) rfl)))
      (sss_one (ss_ret (Me := []) (se_v (pv 1) rfl)))))
theorem g_l_far {P : Program} {w : World} {K : PySem.W.Frag} {mg : Str → Option Value} {base : Heap} {f : Addr} {fd : FuncData} (T : TX mg) (G_l_next : FnB P w K mg base 1 "_law_next" ["pool", "base"] [.pl, .rd] .fz S_l_next) (F : Fun K "_law_far" "_law_far" s_l_far f fd) (hm : mg "_law_far" = some (.ref f)) : FnB P w K mg base 2 "_law_far" ["pool"] [.pl] .fz S_l_far :=
  ⟨f, fd, fn_def [.pl] F sc_l_far rfl rfl rfl (by first | exact .inl rfl | exact .inr rfl) (by intro i; match i with | i => exact noq (by decide) i) (b_l_far T G_l_next) m_l_far, hm, F.kp, F.binds fun _ _ _ _ _ _ us hl => match us, hl with | [_], _ => rfl⟩
abbrev s_l_odd : Stmt := topS 13
abbrev N_l_odd : List Str := ["pool", "hues", "at", "far", "found", "thing"]
abbrev k_l_odd : List SK := [.p, .v, .v, .v, .o, .v]
theorem sc_l_odd : FnScope N_l_odd ["pool", "hues"] (defScope s_l_odd) := ⟨rfl, rfl, rfl, by decide +kernel, rfl, by decide +kernel, by decide +kernel⟩
theorem b_l_odd {P : Program} {w : World} {K : PySem.W.Frag} {mg : Str → Option Value} {base : Heap} (T : TX mg) (G_l_next : FnB P w K mg base 1 "_law_next" ["pool", "base"] [.pl, .rd] .fz S_l_next) (G_l_far : FnB P w K mg base 2 "_law_far" ["pool"] [.pl] .fz S_l_far) {f : Addr} (cdv : Value) (A : Around) (outer : List Env) (s : Shared) (H : Hp) (E : XK) (hr : Room 2 (A.deeper (envOfC "_law_odd" (defScope s_l_odd) s.heap.objs.size f cdv))) :
    SSs (cxOf CX0 P w K mg base N_l_odd "_law_odd" (defScope s_l_odd) f cdv A outer s H E).nox k_l_odd [4] .fz (defBody s_l_odd) (wb_l_odd S_l_next S_l_far) :=
  (sss_cons (ss_set (Me := []) (i := 2) sc_l_odd.nd rfl (by first | exact Or.inl rfl | exact Or.inr rfl) (se_fn G_l_next hr (by rfl) (sa_cons (se_p (pv 0) rfl) (sa_cons (se_blt call_len_seq bd_len (by rfl) T.b_len bt_len (sa_cons (se_v (pv 1) rfl) sa_nil)) sa_nil))) rfl)
      (sss_cons (ss_set (Me := []) (i := 3) sc_l_odd.nd rfl (by first | exact Or.inl rfl | exact Or.inr rfl) (se_fn G_l_far hr (by rfl) (sa_cons (se_p (pv 0) rfl) sa_nil)) rfl)
      (sss_cons (ss_setO (Me := []) (i := 4) sc_l_odd.nd rfl (by first | exact Or.inl rfl | exact Or.inr rfl) (se_lst (sa_cons (SE.nf (se_bty call_list_of bd_lst (by rfl) T.b_list bt_list (sa_cons (se_v (pv 1) rfl) sa_nil))) (sa_cons se_non (sa_cons (se_blt call_len_seq bd_len (by rfl) T.b_len bt_len (sa_cons (se_v (pv 1) rfl) sa_nil)) (sa_cons (se_bty call_str_int bd_str (by rfl) T.b_str bt_str (sa_cons (se_v (pv 3) rfl) sa_nil)) (sa_cons (se_bin op_addF od_add (se_sl sl_F sd_F (se_v (pv 1) rfl) so_n (so_s (se_v (pv 2) rfl))) (se_sl sl_F sd_F (se_v (pv 1) rfl) (so_s (se_bin op_addF od_add (se_v (pv 2) rfl) se_int)) so_n)) (sa_cons (se_bin op_addF od_add (se_v (pv 1) rfl) (se_tup (sa_cons (se_v (pv 3) rfl) sa_nil))) (sa_cons (se_tup (sa_cons (se_v (pv 1) rfl) sa_nil)) (sa_cons (se_tup sa_nil) sa_nil))))))))) rfl)
      (sss_cons (ss_expr (Me := [4]) (se_mut (Ma := []) PySem.F.slot_list_append PySem.F.type_list_append mt_append md_append (pv 4) (sa_cons (SE.nf (se_dictEn (by rfl) T.b_dict (by rfl) T.b_enumerate (se_v (pv 1) rfl))) sa_nil) (Or.inl rfl)))
      (sss_cons (ss_for (Me := []) PassesOwn.never rfl (si_seq (se_lst (sa_cons se_bl (sa_cons se_bl (sa_cons se_non (sa_cons (se_bty call_str_int bd_str (by rfl) T.b_str bt_str (sa_cons (se_v (pv 3) rfl) sa_nil)) (sa_cons (se_tup (sa_cons (se_v (pv 3) rfl) sa_nil)) (sa_cons (SE.nf (se_lst (sa_cons (se_v (pv 3) rfl) sa_nil))) (sa_cons (SE.nf se_dnew) (sa_cons (se_tup (sa_cons (se_ix ix_seq od_ix (se_v (pv 1) rfl) (se_v (pv 2) rfl) (fun _ _ => rfl)) sa_nil)) (sa_cons se_str sa_nil))))))))))) (sg_name (pg_name (i := 5) sc_l_odd.nd rfl (by first | exact Or.inl rfl | exact Or.inr rfl)) rfl) (sss_one (ss_expr (Me := [4]) (se_mut (Ma := []) PySem.F.slot_list_append PySem.F.type_list_append mt_append md_append (pv 4) (sa_cons (se_bin op_addF od_add (se_bin op_addF od_add (se_sl sl_F sd_F (se_v (pv 1) rfl) so_n (so_s (se_v (pv 2) rfl))) (se_tup (sa_cons (se_v (pv 5) rfl) sa_nil))) (se_sl sl_F sd_F (se_v (pv 1) rfl) (so_s (se_bin op_addF od_add (se_v (pv 2) rfl) se_int)) so_n)) sa_nil) (Or.inl rfl)))))
      (sss_one (ss_retof (Me := []) (se_o (pv 4) rfl) rfl)))))))
theorem g_l_odd {P : Program} {w : World} {K : PySem.W.Frag} {mg : Str → Option Value} {base : Heap} {f : Addr} {fd : FuncData} (T : TX mg) (G_l_next : FnB P w K mg base 1 "_law_next" ["pool", "base"] [.pl, .rd] .fz S_l_next) (G_l_far : FnB P w K mg base 2 "_law_far" ["pool"] [.pl] .fz S_l_far) (F : Fun K "_law_odd" "_law_odd" s_l_odd f fd) (hm : mg "_law_odd" = some (.ref f)) : FnB P w K mg base 3 "_law_odd" ["pool", "hues"] [.pl, .fz] .fz S_l_odd :=
  ⟨f, fd, fn_def [.pl, .fz] F sc_l_odd rfl rfl rfl (by first | exact .inl rfl | exact .inr rfl) (by intro i; match i with | i => exact noq (by decide) i) (b_l_odd T G_l_next G_l_far) m_l_odd, hm, F.kp, F.binds fun _ _ _ _ _ _ us hl => match us, hl with | [_, _], _ => rfl⟩
abbrev s_l_cell : Stmt := topS 5
abbrev N_l_cell : List Str := ["script", "k"]
abbrev k_l_cell : List SK := [.r, .r]
theorem sc_l_cell : FnScope N_l_cell ["script", "k"] (defScope s_l_cell) := ⟨rfl, rfl, rfl, by decide +kernel, rfl, by decide +kernel, by decide +kernel⟩
theorem b_l_cell {P : Program} {w : World} {K : PySem.W.Frag} {mg : Str → Option Value} {base : Heap} (T : TX mg) {f : Addr} (cdv : Value) (A : Around) (outer : List Env) (s : Shared) (H : Hp) (E : XK) (hr : Room 0 (A.deeper (envOfC "_law_cell" (defScope s_l_cell) s.heap.objs.size f cdv))) :
    SSs (cxOf CX0 P w K mg base N_l_cell "_law_cell" (defScope s_l_cell) f cdv A outer s H E).nox k_l_cell [] .fz (defBody s_l_cell) (wb_l_cell) :=
  (sss_cons (ss_if (Me := []) (st_cmp (op_ltF hr.units0) od_lt (se_r (pv 1) rfl) (se_blt call_len_seq bd_len (by rfl) T.b_len bt_len (sa_cons (se_r (pv 0) rfl) sa_nil)) (nomark _)) (sss_one (ss_ret (Me := []) (se_ix ix_seq od_ix (se_r (pv 0) rfl) (se_r (pv 1) rfl) (fun _ _ => rfl)))) sss_nil)
      (sss_one (ss_ret (Me := []) (se_bin op_addF od_add (se_bin op_mul od_mulI (se_bin op_mul od_mulI se_int (se_r (pv 1) rfl)) (se_r (pv 1) rfl)) (se_bin op_mul od_mulI se_int (se_r (pv 1) rfl))))))
theorem g_l_cell {P : Program} {w : World} {K : PySem.W.Frag} {mg : Str → Option Value} {base : Heap} {f : Addr} {fd : FuncData} (T : TX mg) (F : Fun K "_law_cell" "_law_cell" s_l_cell f fd) (hm : mg "_law_cell" = some (.ref f)) : FnB P w K mg base 1 "_law_cell" ["script", "k"] [.rd, .rd] .fz S_l_cell :=
  ⟨f, fd, fn_def [.rd, .rd] F sc_l_cell rfl rfl rfl (by first | exact .inl rfl | exact .inr rfl) (by intro i; match i with | i => exact noq (by decide) i) (b_l_cell T) m_l_cell, hm, F.kp, F.binds fun _ _ _ _ _ _ us hl => match us, hl with | [_, _], _ => rfl⟩
abbrev s_is_whole : Stmt := topS 1
abbrev N_is_whole : List Str := ["thing"]
abbrev k_is_whole : List SK := [.r]
theorem sc_is_whole : FnScope N_is_whole ["thing"] (defScope s_is_whole) := ⟨rfl, rfl, rfl, by decide +kernel, rfl, by decide +kernel, by decide +kernel⟩
theorem b_is_whole {P : Program} {w : World} {K : PySem.W.Frag} {mg : Str → Option Value} {base : Heap} (T : TX mg) {f : Addr} (cdv : Value) (A : Around) (outer : List Env) (s : Shared) (H : Hp) (E : XK) (hr : Room 0 (A.deeper (envOfC "is_whole" (defScope s_is_whole) s.heap.objs.size f cdv))) :
    SSs (cxOf CX0 P w K mg base N_is_whole "is_whole" (defScope s_is_whole) f cdv A outer s H E).nox k_is_whole [] .fz (defBody s_is_whole) (wb_is_whole) :=
  (sss_one (ss_ret (Me := []) (se_and (se_isi kt_int (se_r (pv 0) rfl) (by rfl) T.b_isinstance (by rfl) T.b_int bt_int) (se_one (se_not (se_isi kt_bool (se_r (pv 0) rfl) (by rfl) T.b_isinstance (by rfl) T.b_bool bt_bool))))))
theorem g_is_whole {P : Program} {w : World} {K : PySem.W.Frag} {mg : Str → Option Value} {base : Heap} {f : Addr} {fd : FuncData} (T : TX mg) (F : Fun K "is_whole" "is_whole" s_is_whole f fd) (hm : mg "is_whole" = some (.ref f)) : FnB P w K mg base 1 "is_whole" ["thing"] [.rd] .fz S_is_whole :=
  ⟨f, fd, fn_def [.rd] F sc_is_whole rfl rfl rfl (by first | exact .inl rfl | exact .inr rfl) (by intro i; match i with | i => exact noq (by decide) i) (b_is_whole T) m_is_whole, hm, F.kp, F.binds fun _ _ _ _ _ _ us hl => match us, hl with | [_], _ => rfl⟩
abbrev s_is_hues : Stmt := topS 3
abbrev N_is_hues : List Str := ["web", "thing", "number", "a", "b"]
abbrev k_is_hues : List SK := [.r, .r, .v, .v, .v]
theorem sc_is_hues : FnScope N_is_hues ["web", "thing"] (defScope s_is_hues) := ⟨rfl, rfl, rfl, by decide +kernel, rfl, by decide +kernel, by decide +kernel⟩
theorem b_is_hues {P : Program} {w : World} {K : PySem.W.Frag} {mg : Str → Option Value} {base : Heap} (T : TX mg) (G_is_whole : FnB P w K mg base 1 "is_whole" ["thing"] [.rd] .fz S_is_whole) {f : Addr} (cdv : Value) (A : Around) (outer : List Env) (s : Shared) (H : Hp) (E : XK) (hr : Room 1 (A.deeper (envOfC "is_hues" (defScope s_is_hues) s.heap.objs.size f cdv))) :
    SSs (cxOf CX0 P w K mg base N_is_hues "is_hues" (defScope s_is_hues) f cdv A outer s H E).nox k_is_hues [] .fz (defBody s_is_hues) (wb_is_hues S_is_whole) :=
  (sss_cons (ss_if (Me := []) (SW.st (sw_or (st_not (st_val (se_isi kt_tuple (se_r (pv 1) rfl) (by rfl) T.b_isinstance (by rfl) T.b_tuple bt_tuple))) (sw_or (st_cmp (op_neD hr.units) od_ne (se_blt call_len_seq bd_len (by rfl) T.b_len bt_len (sa_cons (se_r (pv 1) rfl) sa_nil)) (se_ix ix_seq od_ix (se_r (pv 0) rfl) se_int (fun _ _ => rfl)) (nomark _)) (sw_or1 (st_not (st_val (se_blt (cr_all rfl) bd_all (by rfl) T.b_all bt_all (sa_cons (se_lc rfl sc_is_hues.nd (si_seq (se_r (pv 1) rfl)) (own := [("number", 2)]) (blkOk_by (by kernel_rfl)) (fun _ _ _ _ _ => (sg_name (pg_name (i := 2) sc_is_hues.nd rfl (by first | exact Or.inl rfl | exact Or.inr rfl)) rfl)) (fun _ _ _ _ _ => sp_nil) (fun _ _ _ _ _ => (se_fn G_is_whole hr (by rfl) (sa_cons (se_v (pv 2) rfl) sa_nil)))) sa_nil)))))))) (sss_one (ss_ret (Me := []) se_bl)) sss_nil)
      (sss_one (ss_ret (Me := []) (se_blt (cr_all rfl) bd_all (by rfl) T.b_all bt_all (sa_cons (se_lc rfl sc_is_hues.nd (si_seq (se_ix ix_seq od_ix (se_r (pv 0) rfl) se_int (fun _ _ => rfl))) (own := [("a", 3), ("b", 4)]) (blkOk_by (by kernel_rfl)) (fun _ _ _ _ _ => (sg_tup rfl (sgs_cons (sg_name (pg_name (i := 3) sc_is_hues.nd rfl (by first | exact Or.inl rfl | exact Or.inr rfl)) rfl) (sgs_cons (sg_name (pg_name (i := 4) sc_is_hues.nd rfl (by first | exact Or.inl rfl | exact Or.inr rfl)) rfl) sgs_nil)))) (fun _ _ _ _ _ => sp_nil) (fun _ _ _ _ _ => (se_cmp (op_neD hr.units) od_ne (se_ix ix_seq od_ix (se_r (pv 1) rfl) (se_v (pv 3) rfl) (fun _ _ => rfl)) (se_ix ix_seq od_ix (se_r (pv 1) rfl) (se_v (pv 4) rfl) (fun _ _ => rfl)) (nomark _)))) sa_nil)))))
theorem g_is_hues {P : Program} {w : World} {K : PySem.W.Frag} {mg : Str → Option Value} {base : Heap} {f : Addr} {fd : FuncData} (T : TX mg) (G_is_whole : FnB P w K mg base 1 "is_whole" ["thing"] [.rd] .fz S_is_whole) (F : Fun K "is_hues" "is_hues" s_is_hues f fd) (hm : mg "is_hues" = some (.ref f)) : FnB P w K mg base 2 "is_hues" ["web", "thing"] [.rd, .rd] .fz S_is_hues :=
  ⟨f, fd, fn_def [.rd, .rd] F sc_is_hues rfl rfl rfl (by first | exact .inl rfl | exact .inr rfl) (by intro i; match i with | i => exact noq (by decide) i) (b_is_hues T G_is_whole) m_is_hues, hm, F.kp, F.binds fun _ _ _ _ _ _ us hl => match us, hl with | [_, _], _ => rfl⟩
abbrev s_l_due : Stmt := topS 14
abbrev N_l_due : List Str := ["web", "thing", "number", "a", "b"]
abbrev k_l_due : List SK := [.r, .r, .v, .v, .v]
theorem sc_l_due : FnScope N_l_due ["web", "thing"] (defScope s_l_due) := ⟨rfl, rfl, rfl, by decide +kernel, rfl, by decide +kernel, by decide +kernel⟩
theorem b_l_due {P : Program} {w : World} {K : PySem.W.Frag} {mg : Str → Option Value} {base : Heap} (T : TX mg) {f : Addr} (cdv : Value) (A : Around) (outer : List Env) (s : Shared) (H : Hp) (E : XK) (hr : Room 0 (A.deeper (envOfC "_law_due" (defScope s_l_due) s.heap.objs.size f cdv))) :
    SSs (cxOf CX0 P w K mg base N_l_due "_law_due" (defScope s_l_due) f cdv A outer s H E).nox k_l_due [] .fz (defBody s_l_due) (wb_l_due) :=
  (sss_cons (ss_if (Me := []) (SW.st (sw_or (st_not (st_val (se_isi kt_tuple (se_r (pv 1) rfl) (by rfl) T.b_isinstance (by rfl) T.b_tuple bt_tuple))) (sw_or1 (st_cmp (op_neD hr.units) od_ne (se_blt call_len_seq bd_len (by rfl) T.b_len bt_len (sa_cons (se_r (pv 1) rfl) sa_nil)) (se_ix ix_seq od_ix (se_r (pv 0) rfl) se_int (fun _ _ => rfl)) (nomark _))))) (sss_one (ss_ret (Me := []) se_bl)) sss_nil)
      (sss_cons (ss_for (Me := []) PassesOwn.never rfl (si_seq (se_r (pv 1) rfl)) (sg_name (pg_name (i := 2) sc_l_due.nd rfl (by first | exact Or.inl rfl | exact Or.inr rfl)) rfl) (sss_one (ss_if (Me := []) (SW.st (sw_or (st_not (st_val (se_isi kt_int (se_v (pv 2) rfl) (by rfl) T.b_isinstance (by rfl) T.b_int bt_int))) (sw_or1 (st_val (se_isi kt_bool (se_v (pv 2) rfl) (by rfl) T.b_isinstance (by rfl) T.b_bool bt_bool))))) (sss_one (ss_ret (Me := []) se_bl)) sss_nil)))
      (sss_one (ss_ret (Me := []) (se_blt (cr_all rfl) bd_all (by rfl) T.b_all bt_all (sa_cons (se_lc rfl sc_l_due.nd (si_seq (se_ix ix_seq od_ix (se_r (pv 0) rfl) se_int (fun _ _ => rfl))) (own := [("a", 3), ("b", 4)]) (blkOk_by (by kernel_rfl)) (fun _ _ _ _ _ => (sg_tup rfl (sgs_cons (sg_name (pg_name (i := 3) sc_l_due.nd rfl (by first | exact Or.inl rfl | exact Or.inr rfl)) rfl) (sgs_cons (sg_name (pg_name (i := 4) sc_l_due.nd rfl (by first | exact Or.inl rfl | exact Or.inr rfl)) rfl) sgs_nil)))) (fun _ _ _ _ _ => sp_nil) (fun _ _ _ _ _ => (se_cmp (op_neD hr.units) od_ne (se_ix ix_seq od_ix (se_r (pv 1) rfl) (se_v (pv 3) rfl) (fun _ _ => rfl)) (se_ix ix_seq od_ix (se_r (pv 1) rfl) (se_v (pv 4) rfl) (fun _ _ => rfl)) (nomark _)))) sa_nil))))))
theorem g_l_due {P : Program} {w : World} {K : PySem.W.Frag} {mg : Str → Option Value} {base : Heap} {f : Addr} {fd : FuncData} (T : TX mg) (F : Fun K "_law_due" "_law_due" s_l_due f fd) (hm : mg "_law_due" = some (.ref f)) : FnB P w K mg base 1 "_law_due" ["web", "thing"] [.rd, .rd] .fz S_l_due :=
  ⟨f, fd, fn_def [.rd, .rd] F sc_l_due rfl rfl rfl (by first | exact .inl rfl | exact .inr rfl) (by intro i; match i with | i => exact noq (by decide) i) (b_l_due T) m_l_due, hm, F.kp, F.binds fun _ _ _ _ _ _ us hl => match us, hl with | [_, _], _ => rfl⟩
abbrev s_law : Stmt := topS 15
abbrev N_law : List Str := ["script", "k", "pool", "web", "hues", "thing", "found"]
abbrev k_law : List SK := [.r, .v, .p, .v, .v, .v, .v]
theorem sc_law : FnScope N_law ["script"] (defScope s_law) := ⟨rfl, rfl, rfl, by decide +kernel, rfl, by decide +kernel, by decide +kernel⟩
theorem b_law {P : Program} {w : World} {K : PySem.W.Frag} {mg : Str → Option Value} {base : Heap} (T : TX mg) (G_l_dig : FnB P w K mg base 1 "_law_dig" ["cell"] [.rd] .nw S_l_dig) (G_l_cell : FnB P w K mg base 1 "_law_cell" ["script", "k"] [.rd, .rd] .fz S_l_cell) (G_l_web : FnB P w K mg base 3 "_law_web" ["pool", "most", "cap"] [.pl, .rd, .rd] .fz S_l_web) (G_l_order : FnB P w K mg base 2 "_law_order" ["pool", "many"] [.pl, .rd] .fz S_l_order) (G_is_hues : FnB P w K mg base 2 "is_hues" ["web", "thing"] [.rd, .rd] .fz S_is_hues) (G_l_odd : FnB P w K mg base 3 "_law_odd" ["pool", "hues"] [.pl, .fz] .fz S_l_odd) (G_l_due : FnB P w K mg base 1 "_law_due" ["web", "thing"] [.rd, .rd] .fz S_l_due) {f : Addr} (cdv : Value) (A : Around) (outer : List Env) (s : Shared) (H : Hp) (E : XK) (hr : Room 3 (A.deeper (envOfC "law" (defScope s_law) s.heap.objs.size f cdv))) :
    SSs (cxOf CX0 P w K mg base N_law "law" (defScope s_law) f cdv A outer s H E).nox k_law [] .fz (defBody s_law) (wb_law S_l_dig S_l_cell S_l_web S_l_order S_is_hues S_l_odd S_l_due) :=
  (sss_cons (ss_for (Me := []) PassesOwn.never rfl (si_rg1 (by rfl) T.b_range (se_blt (call_max2 rfl) bd_max2 (by rfl) T.b_max bt_max (sa_cons se_int (sa_cons (se_blt (call_min2 rfl) bd_min2 (by rfl) T.b_min bt_min (sa_cons se_int (sa_cons (se_blt call_len_seq bd_len (by rfl) T.b_len bt_len (sa_cons (se_r (pv 0) rfl) sa_nil)) sa_nil))) sa_nil)))) (sg_name (pg_name (i := 1) sc_law.nd rfl (by first | exact Or.inl rfl | exact Or.inr rfl)) rfl) (sss_cons (ss_setP (Me := []) (i := 2) sc_law.nd rfl (by first | exact Or.inl rfl | exact Or.inr rfl) (se_fn G_l_dig hr (by rfl) (sa_cons (se_fn G_l_cell hr (by rfl) (sa_cons (se_r (pv 0) rfl) (sa_cons (se_v (pv 1) rfl) sa_nil))) sa_nil)) rfl)
      (sss_cons (ss_set (Me := []) (i := 3) sc_law.nd rfl (by first | exact Or.inl rfl | exact Or.inr rfl) (se_fn G_l_web hr (by rfl) (sa_cons (se_p (pv 2) rfl) (sa_cons se_int (sa_cons se_int sa_nil)))) rfl)
      (sss_cons (ss_set (Me := []) (i := 4) sc_law.nd rfl (by first | exact Or.inl rfl | exact Or.inr rfl) (se_fn G_l_order hr (by rfl) (sa_cons (se_p (pv 2) rfl) (sa_cons (se_ix ix_seq od_ix (se_v (pv 3) rfl) se_int (fun _ _ => rfl)) sa_nil))) rfl)
      (sss_cons (ss_if (Me := []) (st_cmp op_isNotF od_isNot (se_fn G_is_hues hr (by rfl) (sa_cons (se_v (pv 3) rfl) (sa_cons (se_v (pv 4) rfl) sa_nil))) se_bl (nomark _)) (sss_one (ss_ret (Me := []) se_bl)) sss_nil)
      (sss_one (ss_for (Me := []) PassesOwn.never rfl (si_seq (se_fn G_l_odd hr (by rfl) (sa_cons (se_p (pv 2) rfl) (sa_cons (se_v (pv 4) rfl) sa_nil)))) (sg_name (pg_name (i := 5) sc_law.nd rfl (by first | exact Or.inl rfl | exact Or.inr rfl)) rfl) (sss_cons (ss_set (Me := []) (i := 6) sc_law.nd rfl (by first | exact Or.inl rfl | exact Or.inr rfl) (se_fn G_is_hues hr (by rfl) (sa_cons (se_v (pv 3) rfl) (sa_cons (se_v (pv 5) rfl) sa_nil))) rfl)
      (sss_one (ss_if (Me := []) (SW.st (sw_or (st_not (st_val (se_isi kt_bool (se_v (pv 6) rfl) (by rfl) T.b_isinstance (by rfl) T.b_bool bt_bool))) (sw_or1 (st_cmp (op_neD hr.units) od_ne (se_v (pv 6) rfl) (se_fn G_l_due hr (by rfl) (sa_cons (se_v (pv 3) rfl) (sa_cons (se_v (pv 5) rfl) sa_nil))) (nomark _))))) (sss_one (ss_ret (Me := []) se_bl)) sss_nil))))))))))
      (sss_one (ss_ret (Me := []) se_bl)))
theorem g_law {P : Program} {w : World} {K : PySem.W.Frag} {mg : Str → Option Value} {base : Heap} {f : Addr} {fd : FuncData} (T : TX mg) (G_l_dig : FnB P w K mg base 1 "_law_dig" ["cell"] [.rd] .nw S_l_dig) (G_l_cell : FnB P w K mg base 1 "_law_cell" ["script", "k"] [.rd, .rd] .fz S_l_cell) (G_l_web : FnB P w K mg base 3 "_law_web" ["pool", "most", "cap"] [.pl, .rd, .rd] .fz S_l_web) (G_l_order : FnB P w K mg base 2 "_law_order" ["pool", "many"] [.pl, .rd] .fz S_l_order) (G_is_hues : FnB P w K mg base 2 "is_hues" ["web", "thing"] [.rd, .rd] .fz S_is_hues) (G_l_odd : FnB P w K mg base 3 "_law_odd" ["pool", "hues"] [.pl, .fz] .fz S_l_odd) (G_l_due : FnB P w K mg base 1 "_law_due" ["web", "thing"] [.rd, .rd] .fz S_l_due) (F : Fun K "law" "law" s_law f fd) : FnOk P w K mg base CX0 4 f fd ["script"] (spOfL K [.rd] .fz lawS) :=
  fn_defL [.rd] F sc_law rfl rfl rfl (by first | exact .inl rfl | exact .inr rfl) (by intro i; exact noq (by decide) i) (b_law T G_l_dig G_l_cell G_l_web G_l_order G_is_hues G_l_odd G_l_due) m_law
theorem all_mk {l : PySem.W.OpenLaw} {w : World} {K : PySem.W.Frag} {h : Heap} {mg : Str → Option Value} {fa : Addr} (X : K.In h) (G : h.Ns mainGlobals mg) (hfa : mg "law" = some (.ref fa))
    {f_l_dig : Addr} {od_l_dig an_l_dig : Option Addr} {sl_l_dig : Array (Option Value)} {oc_l_dig kV_l_dig dc_l_dig pm_l_dig cd_l_dig ct_l_dig : Value}
    (a_l_dig : PySem.W.nsIn K mainGlobals "_law_dig" = some (some (.ref f_l_dig))) (l_l_dig : K.lookup f_l_dig = some ⟨oc_l_dig, od_l_dig, .func (PySem.W.fnOf "_law_dig" "_law_dig" (defArgs s_l_dig) (defBody s_l_dig) (defScope s_l_dig) .none kV_l_dig dc_l_dig pm_l_dig an_l_dig cd_l_dig ct_l_dig), sl_l_dig⟩) (c_l_dig : PySem.W.codeIn K cd_l_dig "_law_dig" = true) (k_l_dig' : PySem.W.keepIn K (.ref f_l_dig) = true)
    {f_l_next : Addr} {od_l_next an_l_next : Option Addr} {sl_l_next : Array (Option Value)} {oc_l_next kV_l_next dc_l_next pm_l_next cd_l_next ct_l_next : Value}
    (a_l_next : PySem.W.nsIn K mainGlobals "_law_next" = some (some (.ref f_l_next))) (l_l_next : K.lookup f_l_next = some ⟨oc_l_next, od_l_next, .func (PySem.W.fnOf "_law_next" "_law_next" (defArgs s_l_next) (defBody s_l_next) (defScope s_l_next) .none kV_l_next dc_l_next pm_l_next an_l_next cd_l_next ct_l_next), sl_l_next⟩) (c_l_next : PySem.W.codeIn K cd_l_next "_law_next" = true) (k_l_next' : PySem.W.keepIn K (.ref f_l_next) = true)
    {f_l_renamed : Addr} {od_l_renamed an_l_renamed : Option Addr} {sl_l_renamed : Array (Option Value)} {oc_l_renamed kV_l_renamed dc_l_renamed pm_l_renamed cd_l_renamed ct_l_renamed : Value}
    (a_l_renamed : PySem.W.nsIn K mainGlobals "_law_renamed" = some (some (.ref f_l_renamed))) (l_l_renamed : K.lookup f_l_renamed = some ⟨oc_l_renamed, od_l_renamed, .func (PySem.W.fnOf "_law_renamed" "_law_renamed" (defArgs s_l_renamed) (defBody s_l_renamed) (defScope s_l_renamed) .none kV_l_renamed dc_l_renamed pm_l_renamed an_l_renamed cd_l_renamed ct_l_renamed), sl_l_renamed⟩) (c_l_renamed : PySem.W.codeIn K cd_l_renamed "_law_renamed" = true) (k_l_renamed' : PySem.W.keepIn K (.ref f_l_renamed) = true)
    {f_l_order : Addr} {od_l_order an_l_order : Option Addr} {sl_l_order : Array (Option Value)} {oc_l_order kV_l_order dc_l_order pm_l_order cd_l_order ct_l_order : Value}
    (a_l_order : PySem.W.nsIn K mainGlobals "_law_order" = some (some (.ref f_l_order))) (l_l_order : K.lookup f_l_order = some ⟨oc_l_order, od_l_order, .func (PySem.W.fnOf "_law_order" "_law_order" (defArgs s_l_order) (defBody s_l_order) (defScope s_l_order) .none kV_l_order dc_l_order pm_l_order an_l_order cd_l_order ct_l_order), sl_l_order⟩) (c_l_order : PySem.W.codeIn K cd_l_order "_law_order" = true) (k_l_order' : PySem.W.keepIn K (.ref f_l_order) = true)
    {f_l_web : Addr} {od_l_web an_l_web : Option Addr} {sl_l_web : Array (Option Value)} {oc_l_web kV_l_web dc_l_web pm_l_web cd_l_web ct_l_web : Value}
    (a_l_web : PySem.W.nsIn K mainGlobals "_law_web" = some (some (.ref f_l_web))) (l_l_web : K.lookup f_l_web = some ⟨oc_l_web, od_l_web, .func (PySem.W.fnOf "_law_web" "_law_web" (defArgs s_l_web) (defBody s_l_web) (defScope s_l_web) .none kV_l_web dc_l_web pm_l_web an_l_web cd_l_web ct_l_web), sl_l_web⟩) (c_l_web : PySem.W.codeIn K cd_l_web "_law_web" = true) (k_l_web' : PySem.W.keepIn K (.ref f_l_web) = true)
    {f_l_far : Addr} {od_l_far an_l_far : Option Addr} {sl_l_far : Array (Option Value)} {oc_l_far kV_l_far dc_l_far pm_l_far cd_l_far ct_l_far : Value}
    (a_l_far : PySem.W.nsIn K mainGlobals "_law_far" = some (some (.ref f_l_far))) (l_l_far : K.lookup f_l_far = some ⟨oc_l_far, od_l_far, .func (PySem.W.fnOf "_law_far" "_law_far" (defArgs s_l_far) (defBody s_l_far) (defScope s_l_far) .none kV_l_far dc_l_far pm_l_far an_l_far cd_l_far ct_l_far), sl_l_far⟩) (c_l_far : PySem.W.codeIn K cd_l_far "_law_far" = true) (k_l_far' : PySem.W.keepIn K (.ref f_l_far) = true)
    {f_l_odd : Addr} {od_l_odd an_l_odd : Option Addr} {sl_l_odd : Array (Option Value)} {oc_l_odd kV_l_odd dc_l_odd pm_l_odd cd_l_odd ct_l_odd : Value}
    (a_l_odd : PySem.W.nsIn K mainGlobals "_law_odd" = some (some (.ref f_l_odd))) (l_l_odd : K.lookup f_l_odd = some ⟨oc_l_odd, od_l_odd, .func (PySem.W.fnOf "_law_odd" "_law_odd" (defArgs s_l_odd) (defBody s_l_odd) (defScope s_l_odd) .none kV_l_odd dc_l_odd pm_l_odd an_l_odd cd_l_odd ct_l_odd), sl_l_odd⟩) (c_l_odd : PySem.W.codeIn K cd_l_odd "_law_odd" = true) (k_l_odd' : PySem.W.keepIn K (.ref f_l_odd) = true)
    {f_l_cell : Addr} {od_l_cell an_l_cell : Option Addr} {sl_l_cell : Array (Option Value)} {oc_l_cell kV_l_cell dc_l_cell pm_l_cell cd_l_cell ct_l_cell : Value}
    (a_l_cell : PySem.W.nsIn K mainGlobals "_law_cell" = some (some (.ref f_l_cell))) (l_l_cell : K.lookup f_l_cell = some ⟨oc_l_cell, od_l_cell, .func (PySem.W.fnOf "_law_cell" "_law_cell" (defArgs s_l_cell) (defBody s_l_cell) (defScope s_l_cell) .none kV_l_cell dc_l_cell pm_l_cell an_l_cell cd_l_cell ct_l_cell), sl_l_cell⟩) (c_l_cell : PySem.W.codeIn K cd_l_cell "_law_cell" = true) (k_l_cell' : PySem.W.keepIn K (.ref f_l_cell) = true)
    {f_is_whole : Addr} {od_is_whole an_is_whole : Option Addr} {sl_is_whole : Array (Option Value)} {oc_is_whole kV_is_whole dc_is_whole pm_is_whole cd_is_whole ct_is_whole : Value}
    (a_is_whole : PySem.W.nsIn K mainGlobals "is_whole" = some (some (.ref f_is_whole))) (l_is_whole : K.lookup f_is_whole = some ⟨oc_is_whole, od_is_whole, .func (PySem.W.fnOf "is_whole" "is_whole" (defArgs s_is_whole) (defBody s_is_whole) (defScope s_is_whole) .none kV_is_whole dc_is_whole pm_is_whole an_is_whole cd_is_whole ct_is_whole), sl_is_whole⟩) (c_is_whole : PySem.W.codeIn K cd_is_whole "is_whole" = true) (k_is_whole' : PySem.W.keepIn K (.ref f_is_whole) = true)
    {f_is_hues : Addr} {od_is_hues an_is_hues : Option Addr} {sl_is_hues : Array (Option Value)} {oc_is_hues kV_is_hues dc_is_hues pm_is_hues cd_is_hues ct_is_hues : Value}
    (a_is_hues : PySem.W.nsIn K mainGlobals "is_hues" = some (some (.ref f_is_hues))) (l_is_hues : K.lookup f_is_hues = some ⟨oc_is_hues, od_is_hues, .func (PySem.W.fnOf "is_hues" "is_hues" (defArgs s_is_hues) (defBody s_is_hues) (defScope s_is_hues) .none kV_is_hues dc_is_hues pm_is_hues an_is_hues cd_is_hues ct_is_hues), sl_is_hues⟩) (c_is_hues : PySem.W.codeIn K cd_is_hues "is_hues" = true) (k_is_hues' : PySem.W.keepIn K (.ref f_is_hues) = true)
    {f_l_due : Addr} {od_l_due an_l_due : Option Addr} {sl_l_due : Array (Option Value)} {oc_l_due kV_l_due dc_l_due pm_l_due cd_l_due ct_l_due : Value}
    (a_l_due : PySem.W.nsIn K mainGlobals "_law_due" = some (some (.ref f_l_due))) (l_l_due : K.lookup f_l_due = some ⟨oc_l_due, od_l_due, .func (PySem.W.fnOf "_law_due" "_law_due" (defArgs s_l_due) (defBody s_l_due) (defScope s_l_due) .none kV_l_due dc_l_due pm_l_due an_l_due cd_l_due ct_l_due), sl_l_due⟩) (c_l_due : PySem.W.codeIn K cd_l_due "_law_due" = true) (k_l_due' : PySem.W.keepIn K (.ref f_l_due) = true)
    {f_law : Addr} {od_law an_law : Option Addr} {sl_law : Array (Option Value)} {oc_law kV_law dc_law pm_law cd_law ct_law : Value}
    (a_law : PySem.W.nsIn K mainGlobals "law" = some (some (.ref f_law))) (l_law : K.lookup f_law = some ⟨oc_law, od_law, .func (PySem.W.fnOf "law" "law" (defArgs s_law) (defBody s_law) (defScope s_law) .none kV_law dc_law pm_law an_law cd_law ct_law), sl_law⟩) (c_law : PySem.W.codeIn K cd_law "law" = true) (k_law' : PySem.W.keepIn K (.ref f_law) = true)
    (z_all : PySem.W.nsIn K mainGlobals "all" = some none)
    (z_bool : PySem.W.nsIn K mainGlobals "bool" = some none)
    (z_dict : PySem.W.nsIn K mainGlobals "dict" = some none)
    (z_enumerate : PySem.W.nsIn K mainGlobals "enumerate" = some none)
    (z_int : PySem.W.nsIn K mainGlobals "int" = some none)
    (z_isinstance : PySem.W.nsIn K mainGlobals "isinstance" = some none)
    (z_len : PySem.W.nsIn K mainGlobals "len" = some none)
    (z_list : PySem.W.nsIn K mainGlobals "list" = some none)
    (z_max : PySem.W.nsIn K mainGlobals "max" = some none)
    (z_min : PySem.W.nsIn K mainGlobals "min" = some none)
    (z_range : PySem.W.nsIn K mainGlobals "range" = some none)
    (z_sorted : PySem.W.nsIn K mainGlobals "sorted" = some none)
    (z_str : PySem.W.nsIn K mainGlobals "str" = some none)
    (z_tuple : PySem.W.nsIn K mainGlobals "tuple" = some none)
    : ∃ fd : FuncData, (∀ (s : Shared) (v : Value), BindsTo s fd ⟨[v], []⟩ [("script", v)]) ∧ ∀ base : Heap, K.In base → base.Ns mainGlobals mg → FnOk l.prog w K mg base CX0 4 fa fd ["script"] (spOfL K [.rd] .fz lawS) := by
  have e := hfa.symm.trans (PySem.W.mg_of X G a_law)
  cases e
  have T : TX mg := ⟨PySem.W.mg_none_of X G z_all, PySem.W.mg_none_of X G z_bool, PySem.W.mg_none_of X G z_dict, PySem.W.mg_none_of X G z_enumerate, PySem.W.mg_none_of X G z_int, PySem.W.mg_none_of X G z_isinstance, PySem.W.mg_none_of X G z_len, PySem.W.mg_none_of X G z_list, PySem.W.mg_none_of X G z_max, PySem.W.mg_none_of X G z_min, PySem.W.mg_none_of X G z_range, PySem.W.mg_none_of X G z_sorted, PySem.W.mg_none_of X G z_str, PySem.W.mg_none_of X G z_tuple⟩
  refine ⟨PySem.W.fnOf "law" "law" (defArgs s_law) (defBody s_law) (defScope s_law) .none kV_law dc_law pm_law an_law cd_law ct_law, fun s v => .of_eq rfl, fun base _ _ => ?_⟩
  have H_l_dig := g_l_dig (P := l.prog) (w := w) (K := K) (mg := mg) (base := base) T (fun_mk (st := s_l_dig) l_l_dig c_l_dig k_l_dig') (PySem.W.mg_of X G a_l_dig)
  have H_l_next := g_l_next (P := l.prog) (w := w) (K := K) (mg := mg) (base := base) T (fun_mk (st := s_l_next) l_l_next c_l_next k_l_next') (PySem.W.mg_of X G a_l_next)
  have H_l_renamed := g_l_renamed (P := l.prog) (w := w) (K := K) (mg := mg) (base := base) T (fun_mk (st := s_l_renamed) l_l_renamed c_l_renamed k_l_renamed') (PySem.W.mg_of X G a_l_renamed)
  have H_l_order := g_l_order (P := l.prog) (w := w) (K := K) (mg := mg) (base := base) T H_l_next (fun_mk (st := s_l_order) l_l_order c_l_order k_l_order') (PySem.W.mg_of X G a_l_order)
  have H_l_web := g_l_web (P := l.prog) (w := w) (K := K) (mg := mg) (base := base) T H_l_next H_l_renamed H_l_order (fun_mk (st := s_l_web) l_l_web c_l_web k_l_web') (PySem.W.mg_of X G a_l_web)
  have H_l_far := g_l_far (P := l.prog) (w := w) (K := K) (mg := mg) (base := base) T H_l_next (fun_mk (st := s_l_far) l_l_far c_l_far k_l_far') (PySem.W.mg_of X G a_l_far)
  have H_l_odd := g_l_odd (P := l.prog) (w := w) (K := K) (mg := mg) (base := base) T H_l_next H_l_far (fun_mk (st := s_l_odd) l_l_odd c_l_odd k_l_odd') (PySem.W.mg_of X G a_l_odd)
  have H_l_cell := g_l_cell (P := l.prog) (w := w) (K := K) (mg := mg) (base := base) T (fun_mk (st := s_l_cell) l_l_cell c_l_cell k_l_cell') (PySem.W.mg_of X G a_l_cell)
  have H_is_whole := g_is_whole (P := l.prog) (w := w) (K := K) (mg := mg) (base := base) T (fun_mk (st := s_is_whole) l_is_whole c_is_whole k_is_whole') (PySem.W.mg_of X G a_is_whole)
  have H_is_hues := g_is_hues (P := l.prog) (w := w) (K := K) (mg := mg) (base := base) T H_is_whole (fun_mk (st := s_is_hues) l_is_hues c_is_hues k_is_hues') (PySem.W.mg_of X G a_is_hues)
  have H_l_due := g_l_due (P := l.prog) (w := w) (K := K) (mg := mg) (base := base) T (fun_mk (st := s_l_due) l_l_due c_l_due k_l_due') (PySem.W.mg_of X G a_l_due)
  exact g_law T H_l_dig H_l_cell H_l_web H_l_order H_is_hues H_l_odd H_l_due (fun_mk (st := s_law) l_law c_law k_law')
end K12
end G7
open PySem PySem.W PyProof.Rows
set_option maxRecDepth 100000 in
set_option maxHeartbeats 0 in
theorem PySem.Challenge.cw_rillturn_k12_what_are_no_hues_holds : PySem.Challenge.rw_rillturn_k12_what_are_no_hues.Holds := by
  w_on; o_law; k_head; (case hw => w_witness2)
  k_fill
  refine G7.law_walk (l := PySem.Challenge.rw_rillturn_k12_what_are_no_hues) (k := 4) rfl rfl ⟨rfl, by decide, by decide⟩ (fun w h Y => PySem.W.kIn_of Y) ?NL ?F
  case NL =>
    intro w
    first | rfl | decide +kernel
  case F =>
    intro w mg fa h KX G hmg
    refine' G7.K12.all_mk KX G hmg ?a_l_dig ?l_l_dig ?c_l_dig ?k_l_dig' ?a_l_next ?l_l_next ?c_l_next ?k_l_next' ?a_l_renamed ?l_l_renamed ?c_l_renamed ?k_l_renamed' ?a_l_order ?l_l_order ?c_l_order ?k_l_order' ?a_l_web ?l_l_web ?c_l_web ?k_l_web' ?a_l_far ?l_l_far ?c_l_far ?k_l_far' ?a_l_odd ?l_l_odd ?c_l_odd ?k_l_odd' ?a_l_cell ?l_l_cell ?c_l_cell ?k_l_cell' ?a_is_whole ?l_is_whole ?c_is_whole ?k_is_whole' ?a_is_hues ?l_is_hues ?c_is_hues ?k_is_hues' ?a_l_due ?l_l_due ?c_l_due ?k_l_due' ?a_law ?l_law ?c_law ?k_law' ?z_all ?z_bool ?z_dict ?z_enumerate ?z_int ?z_isinstance ?z_len ?z_list ?z_max ?z_min ?z_range ?z_sorted ?z_str ?z_tuple
    (case a_l_dig => k_is)
    (case l_l_dig => k_is)
    (case c_l_dig => k_is)
    (case k_l_dig' => k_is)
    (case a_l_next => k_is)
    (case l_l_next => k_is)
    (case c_l_next => k_is)
    (case k_l_next' => k_is)
    (case a_l_renamed => k_is)
    (case l_l_renamed => k_is)
    (case c_l_renamed => k_is)
    (case k_l_renamed' => k_is)
    (case a_l_order => k_is)
    (case l_l_order => k_is)
    (case c_l_order => k_is)
    (case k_l_order' => k_is)
    (case a_l_web => k_is)
    (case l_l_web => k_is)
    (case c_l_web => k_is)
    (case k_l_web' => k_is)
    (case a_l_far => k_is)
    (case l_l_far => k_is)
    (case c_l_far => k_is)
    (case k_l_far' => k_is)
    (case a_l_odd => k_is)
    (case l_l_odd => k_is)
    (case c_l_odd => k_is)
    (case k_l_odd' => k_is)
    (case a_l_cell => k_is)
    (case l_l_cell => k_is)
    (case c_l_cell => k_is)
    (case k_l_cell' => k_is)
    (case a_is_whole => k_is)
    (case l_is_whole => k_is)
    (case c_is_whole => k_is)
    (case k_is_whole' => k_is)
    (case a_is_hues => k_is)
    (case l_is_hues => k_is)
    (case c_is_hues => k_is)
    (case k_is_hues' => k_is)
    (case a_l_due => k_is)
    (case l_l_due => k_is)
    (case c_l_due => k_is)
    (case k_l_due' => k_is)
    (case a_law => k_is)
    (case l_law => k_is)
    (case c_law => k_is)
    (case k_law' => k_is)
    (case z_all => k_is)
    (case z_bool => k_is)
    (case z_dict => k_is)
    (case z_enumerate => k_is)
    (case z_int => k_is)
    (case z_isinstance => k_is)
    (case z_len => k_is)
    (case z_list => k_is)
    (case z_max => k_is)
    (case z_min => k_is)
    (case z_range => k_is)
    (case z_sorted => k_is)
    (case z_str => k_is)
    (case z_tuple => k_is)

