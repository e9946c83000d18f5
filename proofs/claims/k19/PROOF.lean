import PyProof.Rows.All
import HandS.ForMost
import HandS.Zip
import HandS.Rev
import HandS.Deep
import HandS.TupAny
import HandS.SortInts
import HandS.Style
import HandS.IsInst
import HandS.Conv
import HandS.Strs
import HandS.Dict
import HandS.SortRule
import KE.DatumOrd
import HandS.DictTup
import KE.KDictSum
import HandS.Iter
import HandS.TupLen
import HandS.WordsDict
import HandS.SetFor
import HandS.Remove
import KE.GoesMore
import PySem.Challenge.RW_rillturn_k19_roads_judged
set_option Elab.async false
set_option linter.all false
/-! plain readings of Python code over data: no heap, no program -/
namespace G7
open PySem

abbrev D := PyData
abbrev En := List (Option D)
abbrev WE := En → (D → En → Prop) → Prop
abbrev WT := En → (Bool → En → Prop) → Prop
abbrev WA := En → (List D → En → Prop) → Prop
abbrev WI := En → (List D → En → Prop) → Prop
structure WD where
  nx : En → Prop
  rt : D → En → Prop
  bk : En → Prop := fun _ => False
  ct : En → Prop := fun _ => False
abbrev WS := WD → En → Prop
abbrev WG := D → En → Option En
/-- what a def is asked: arguments, what is wanted of the answer -/
abbrev FS := List D → (D → Prop) → Prop

def lim : Nat := 1000000

/-! expressions -/
def wVar (i : Nat) : WE := fun e Q => ∃ d, e[i]? = some (some d) ∧ Q d e
def wC (d : D) : WE := fun e Q => Q d e
def wOp1 (f : D → Option D) (a : WE) : WE := fun e Q => a e fun x e1 => ∃ z, f x = some z ∧ Q z e1
def wOp2 (f : D → D → Option D) (a b : WE) : WE := fun e Q => a e fun x e1 => b e1 fun y e2 => ∃ z, f x y = some z ∧ Q z e2
def waNil : WA := fun e Q => Q [] e
def waCons (a : WE) (r : WA) : WA := fun e Q => a e fun x e1 => r e1 fun xs e2 => Q (x :: xs) e2
def wList (a : WA) : WE := fun e Q => a e fun xs e1 => xs.length ≤ lim ∧ Q (.list xs) e1
def wTup (a : WA) : WE := fun e Q => a e fun xs e1 => xs.length ≤ lim ∧ Q (.tuple xs) e1
def wCall (S : FS) (a : WA) : WE := fun e Q => a e fun xs e1 => S xs fun r => Q r e1
def wBlt (f : List D → Option D) (a : WA) : WE := fun e Q => a e fun xs e1 => ∃ z, f xs = some z ∧ Q z e1
/-- a slice: lower and upper ends may lie open -/
abbrev WO := En → (Option Int → En → Prop) → Prop
def woN : WO := fun e Q => Q none e
def woS (a : WE) : WO := fun e Q => a e fun x e1 => ∃ i, x = .int i ∧ Q (some i) e1
def wSl (f : D → Option Int → Option Int → Option D) (a : WE) (lo hi : WO) : WE := fun e Q => a e fun x e1 => lo e1 fun l e2 => hi e2 fun h e3 => ∃ z, f x l h = some z ∧ Q z e3
/-! tests -/
def tVal (a : WE) : WT := fun e Q => a e fun x e1 => ∃ b, x = .bool b ∧ Q b e1
def tAnd (s t : WT) : WT := fun e Q => s e fun b e1 => if b = true then t e1 Q else Q false e1
def tOr (s t : WT) : WT := fun e Q => s e fun b e1 => if b = true then Q true e1 else t e1 Q
def tNot (s : WT) : WT := fun e Q => s e fun b e1 => Q (!b) e1
def wAnd (a b : WE) : WE := fun e Q => a e fun x e1 => ∃ c, x = .bool c ∧ if c = true then b e1 Q else Q (.bool false) e1
def wOr (a b : WE) : WE := fun e Q => a e fun x e1 => ∃ c, x = .bool c ∧ if c = true then Q (.bool true) e1 else b e1 Q
def wNot (a : WE) : WE := fun e Q => a e fun x e1 => ∃ c, x = .bool c ∧ Q (.bool (!c)) e1
def wIfE (t : WT) (a b : WE) : WE := fun e Q => t e fun c e1 => if c = true then a e1 Q else b e1 Q
/-- a op1 b op2 c -/
def wChain (f g : D → D → Option D) (a b c : WE) : WE := fun e Q => a e fun x e1 => b e1 fun y e2 => ∃ k, f x y = some (.bool k) ∧
  if k = true then c e2 fun z e3 => ∃ r, g y z = some r ∧ Q r e3 else Q (.bool false) e2
def wChain3 (f g h : D → D → Option D) (a b c d : WE) : WE := fun e Q => a e fun x e1 => b e1 fun y e2 => ∃ k, f x y = some (.bool k) ∧
  if k = true then c e2 fun z e3 => ∃ k2, g y z = some (.bool k2) ∧ (if k2 = true then d e3 fun u e4 => ∃ r, h z u = some r ∧ Q r e4 else Q (.bool false) e3) else Q (.bool false) e2
/-! statements -/
def wNil : WS := fun W e => W.nx e
def wSeq (a b : WS) : WS := fun W e => a { W with nx := fun e1 => b W e1 } e
def wAsg (i : Nat) (a : WE) : WS := fun W e => a e fun x e1 => W.nx (e1.set i (some x))
def wAsgG (g : WG) (a : WE) : WS := fun W e => a e fun x e1 => ∃ e2, g x e1 = some e2 ∧ W.nx e2
def wExpr (a : WE) : WS := fun W e => a e fun _ e1 => W.nx e1
def wRet (a : WE) : WS := fun W e => a e W.rt
def wRetN : WS := fun W e => W.rt .none e
def wIf (t : WT) (a b : WS) : WS := fun W e => t e fun c e1 => if c = true then a W e1 else b W e1
def wNever : WS := fun _ _ => False
def wBreak : WS := fun W e => W.bk e
def wCont : WS := fun W e => W.ct e
def forL (g : WG) (b : WS) (W : WD) : List D → En → Prop
  | [], e => W.nx e
  | x :: xs, e => ∃ e1, g x e = some e1 ∧ b { W with nx := forL g b W xs, ct := forL g b W xs, bk := W.nx } e1
def wFor (it : WI) (g : WG) (b : WS) : WS := fun W e => it e fun xs e1 => forL g b W xs e1
def whileN (t : WT) (b : WS) (W : WD) : Nat → En → Prop
  | 0, _ => False
  | n + 1, e => t e fun c e1 => if c = true then b { W with nx := whileN t b W n, ct := whileN t b W n, bk := W.nx } e1 else W.nx e1
def wWhile (t : WT) (b : WS) : WS := fun W e => ∃ n, whileN t b W n e
/-! targets -/
def gN (i : Nat) : WG := fun x e => some (e.set i (some x))
def gAll : List WG → List D → En → Option En
  | [], [], e => some e
  | g :: gs, x :: xs, e => (g x e).bind fun e1 => gAll gs xs e1
  | _, _, _ => none
def gT (gs : List WG) : WG := fun x e => match x with
  | .tuple xs => gAll gs xs e
  | _ => none
/-! comprehensions -/
def wp (e : En) : List Nat → En
  | [] => e
  | v :: vs => (wp e vs).set v none
def back (e e2 : En) : List Nat → En
  | [] => e2
  | v :: vs => (back e e2 vs).set v ((e[v]?).getD none)
def compL (g : WG) (vs : List Nat) (t : WT) (b : WE) (Q : List D → En → Prop) : List D → List D → En → Prop
  | [], acc, e => Q acc e
  | x :: xs, acc, e => ∃ e1, g x e = some e1 ∧ t e1 fun c e2 => if c = true then b e2 fun y e3 => compL g vs t b Q xs (acc ++ [y]) (wp e3 vs) else compL g vs t b Q xs acc (wp e2 vs)
def wComp (it : WI) (g : WG) (vs : List Nat) (t : WT) (b : WE) : WE := fun e Q => it e fun xs e1 => compL g vs t b (fun acc e2 => Q (.list acc) (back e1 e2 vs)) xs [] (wp e1 vs)
def tYes : WT := fun e Q => Q true e
/-! what is walked -/
def seqD : D → Option (List D)
  | .list xs => some xs
  | .tuple xs => some xs
  | .dict [(.none, .tuple xs)] => some xs
  | _ => none
def rangeD (lo hi : Int) : List D := (List.range (hi - lo).toNat).map fun (i : Nat) => .int (lo + (i : Int))
def wiSeq (a : WE) : WI := fun e Q => a e fun x e1 => ∃ xs, seqD x = some xs ∧ Q xs e1
def wiRg1 (a : WE) : WI := fun e Q => a e fun x e1 => ∃ n : Int, x = .int n ∧ -(lim : Int) ≤ n ∧ n ≤ (lim : Int) ∧ Q (rangeD 0 n) e1
def wiRg2 (a b : WE) : WI := fun e Q => a e fun x e1 => b e1 fun y e2 => ∃ m n : Int, x = .int m ∧ y = .int n ∧ -(lim : Int) ≤ m ∧ m ≤ lim ∧ -(lim : Int) ≤ n ∧ n ≤ (lim : Int) ∧ Q (rangeD m n) e2
def zipD (xs ys : List D) : List D := List.zipWith (fun x y => .tuple [x, y]) xs ys
def wiZip (a b : WE) : WI := fun e Q => a e fun x e1 => b e1 fun y e2 => ∃ xs ys, seqD x = some xs ∧ seqD y = some ys ∧ Q (zipD xs ys) e2
def enumD (xs : List D) : List D := zipD (rangeD 0 xs.length) xs
def wiEnum (a : WE) : WI := fun e Q => a e fun x e1 => ∃ xs, seqD x = some xs ∧ Q (enumD xs) e1
def wiRev (a : WE) : WI := fun e Q => a e fun x e1 => ∃ xs, seqD x = some xs ∧ Q xs.reverse e1
/-! own lists changed -/
def ixN (n : Nat) (i : Int) : Option Nat := if 0 ≤ i then (if i < n then some i.toNat else none) else if -(n : Int) ≤ i then some (i + n).toNat else none
/-- slot i holds a list: f tells its new content and the value of the expression -/
def wMut (i : Nat) (f : List D → List D → Option (D × List D)) (a : WA) : WE := fun e Q => (∃ xs, e[i]? = some (some (.list xs))) ∧ a e fun ys e1 => ∃ xs z xs', e1[i]? = some (some (.list xs)) ∧ f xs ys = some (z, xs') ∧ Q z (e1.set i (some (.list xs')))

/-- slot i holds a list, an item of which is stored -/
def wSetIx (i : Nat) (v ix : WE) : WS := fun W e => v e fun y e1 => (∃ xs, e1[i]? = some (some (.list xs))) ∧ ix e1 fun j e2 => ∃ k xs m, j = .int k ∧ e2[i]? = some (some (.list xs)) ∧ ixN xs.length k = some m ∧ W.nx (e2.set i (some (.list (xs.set m y))))

/-! operators over data -/
def okMul (i j : Int) : Bool := decide ((-(2 ^ 64) < i ∧ i < 2 ^ 64) ∨ (-(2 ^ 64) < j ∧ j < 2 ^ 64))
def addD : D → D → Option D
  | .int a, .int b => some (.int (a + b))
  | .list a, .list b => if a.length + b.length ≤ lim then some (.list (a ++ b)) else none
  | .tuple a, .tuple b => if a.length + b.length ≤ lim then some (.tuple (a ++ b)) else none
  | _, _ => none
def subD : D → D → Option D
  | .int a, .int b => some (.int (a - b))
  | _, _ => none
def mulD : D → D → Option D
  | .int a, .int b => if okMul a b = true then some (.int (a * b)) else none
  | .list a, .int k => if a.length ≤ 1000 ∧ k ≤ 1000 then some (.list (List.replicate k.toNat a).flatten) else none
  | _, _ => none
def fdivD : D → D → Option D
  | .int a, .int b => if 0 < b ∧ b < 1073741824 then some (.int (a / b)) else none
  | _, _ => none
def modD : D → D → Option D
  | .int a, .int b => if 0 < b then some (.int (a % b)) else none
  | _, _ => none
def powD : D → D → Option D
  | .int a, .int b => if 0 ≤ b ∧ b ≤ 1000000 ∧ a.natAbs < 2 ^ 64 then some (.int (a ^ b.toNat)) else none
  | _, _ => none
def negD : D → Option D
  | .int a => some (.int (-a))
  | _ => none
def icmp (p : Int → Int → Bool) : D → D → Option D
  | .int a, .int b => some (.bool (p a b))
  | _, _ => none
def leD := icmp fun a b => decide (a ≤ b)
def gtD := icmp fun a b => decide (b < a)
def geD := icmp fun a b => decide (b ≤ a)
def intsD : List D → Option (List Int)
  | [] => some []
  | .int i :: r => (intsD r).map (i :: ·)
  | _ => none
/-- < of ints, of tuples of ints -/
def ltD : D → D → Option D
  | .int a, .int b => some (.bool (decide (a < b)))
  | .tuple a, .tuple b => (intsD a).bind fun xs => (intsD b).map fun ys => .bool (HT.lexLt xs ys)
  | _, _ => none
/-- data without dicts, texts short: may be compared -/
def okD (d : D) : Bool := SeqAt.shaped d
def eqD (x y : D) : Option D := if okD x = true ∧ okD y = true then some (.bool (PyData.eqv x y)) else none
def neD (x y : D) : Option D := if okD x = true ∧ okD y = true then some (.bool (!PyData.eqv x y)) else none
def inD (x y : D) : Option D := match seqD y with
  | some ys => if okD x = true ∧ okD y = true then some (.bool (ys.any fun z => PyData.eqv z x)) else none
  | none => none
def notInD (x y : D) : Option D := match seqD y with
  | some ys => if okD x = true ∧ okD y = true then some (.bool (!(ys.any fun z => PyData.eqv z x))) else none
  | none => none
def isNoneD : D → Option D
  | .none => some (.bool true)
  | _ => some (.bool false)
def notNoneD : D → Option D
  | .none => some (.bool false)
  | _ => some (.bool true)
def ixD : D → D → Option D
  | .list xs, .int i => (ixN xs.length i).bind fun j => xs[j]?
  | .tuple xs, .int i => (ixN xs.length i).bind fun j => xs[j]?
  | .dict [(.none, .tuple xs)], .int i => (ixN xs.length i).bind fun j => xs[j]?
  | _, _ => none
def cut (xs : List D) (lo hi : Option Int) : List D := (xs.drop (HT.sIx xs.length 0 lo)).take (HT.sIx xs.length xs.length hi - HT.sIx xs.length 0 lo)
def slD : D → Option Int → Option Int → Option D
  | .list xs, lo, hi => some (.list (cut xs lo hi))
  | .tuple xs, lo, hi => some (.tuple (cut xs lo hi))
  | .dict [(.none, .tuple xs)], lo, hi => some (if HT.sIx xs.length 0 lo = 0 ∧ HT.sIx xs.length xs.length hi = xs.length then .dict [(.none, .tuple xs)] else .tuple (cut xs lo hi))
  | _, _, _ => none
def lenD : List D → Option D
  | [.list xs] => some (.int xs.length)
  | [.tuple xs] => some (.int xs.length)
  | [.dict [(.none, .tuple xs)]] => some (.int xs.length)
  | _ => none
def tupD : List D → Option D
  | [.list xs] => some (.tuple xs)
  | [.tuple xs] => some (.tuple xs)
  | [.dict [(.none, .tuple xs)]] => some (.dict [(.none, .tuple xs)])
  | _ => none
def lstD : List D → Option D
  | [.list xs] => some (.list xs)
  | [.tuple xs] => some (.list xs)
  | [.dict [(.none, .tuple xs)]] => some (.list xs)
  | _ => none
def max2D : List D → Option D
  | [.int a, .int b] => some (.int (if b > a then b else a))
  | _ => none
def min2D : List D → Option D
  | [.int a, .int b] => some (.int (if b < a then b else a))
  | _ => none
def intD : List D → Option D
  | [.int a] => some (.int a)
  | [.bool b] => some (.int (if b then 1 else 0))
  | _ => none
def absD : List D → Option D
  | [.int a] => some (.int (if a < 0 then -a else a))
  | _ => none
def boolsD : List D → Option (List Bool)
  | [] => some []
  | .bool i :: r => (boolsD r).map (i :: ·)
  | _ => none
def allD : List D → Option D
  | [.list xs] => (boolsD xs).map fun bs => .bool (bs.all id)
  | _ => none
def anyD : List D → Option D
  | [.list xs] => (boolsD xs).map fun bs => .bool (bs.any id)
  | _ => none
def isTupD : List D → Option D
  | [.tuple _] => some (.bool true)
  | _ => some (.bool false)
def appendF (xs ys : List D) : Option (D × List D) := match ys with
  | [y] => if xs.length < lim then some (.none, xs ++ [y]) else none
  | _ => none
def insertF (xs ys : List D) : Option (D × List D) := match ys with
  | [.int i, y] => if xs.length < lim ∧ 0 ≤ i ∧ i ≤ xs.length then some (.none, xs.take i.toNat ++ y :: xs.drop i.toNat) else none
  | _ => none
def popAtF (xs ys : List D) : Option (D × List D) := match ys with
  | [.int i] => (ixN xs.length i).bind fun j => (xs[j]?).map fun y => (y, xs.eraseIdx j)
  | _ => none
def extendF (xs ys : List D) : Option (D × List D) := match ys with
  | [.list zs] => if xs.length + zs.length ≤ lim then some (.none, xs ++ zs) else none
  | _ => none
end G7

set_option maxRecDepth 100000
/-! the frame's relation: data, values, the abstract heap -/
namespace G7
open PySem PySem.Spec PyProof.Rows L2

abbrev St := L2.St
inductive SK where | v | r | o | q | p | f
  deriving DecidableEq
inductive RK where | fz | rd | nw | ow (i : Nat) | pl | np
  deriving DecidableEq
def RK.rdable : RK → Bool
  | .pl => false
  | .np => false
  | _ => true
structure Rg where
  O : Addr → Prop
  P : Addr → Prop
  I : Addr → Prop
  al : Nat → Option Addr
def Rg.own (g : Rg) (a : Addr) : Prop := g.O a ∨ ∃ i, g.al i = some a

/-- a tuple of the written part -/
def KTup (K : PySem.W.Frag) (a : Addr) (xs : List V) : Prop :=
  ∃ (o : Obj) (its : Array Value) (n : Nat), K.lookup a = some o ∧ o.cls = .type "tuple" ∧ o.data = .seq its n ∧ its.size ≤ sizeLine ∧ Vals xs its.toList
def kD : Key → D
  | .inl i => .int i
  | .inr x => .str x
def tD (k : List Key) : D := .tuple (k.map kD)
/-- a tuple of which the whole object is known (its methods may be called) -/
def xtD (ds : List D) : D := .dict [(.none, .tuple ds)]

section
variable (K : PySem.W.Frag) (H : Hp) (S : Addr → Prop)
mutual
inductive Rep (K : PySem.W.Frag) (H : Hp) (S : Addr → Prop) : V → D → Prop
  | non : Rep K H S .non .none
  | bl (b : Bool) : Rep K H S (.bl b) (.bool b)
  | int (i : Int) : Rep K H S (.int i) (.int i)
  | str (x : Str) : Rep K H S (.str x) (.str x)
  | lst {a : Addr} {xs : List V} {ds : List D} : ¬ S a → Rd H a (.lst xs) → xs.length ≤ sizeLine → RepAll K H S xs ds → Rep K H S (.ref a) (.list ds)
  | tup {a : Addr} {xs : List V} {ds : List D} : ¬ S a → H a = some (.tup xs) → xs.length ≤ sizeLine → RepAll K H S xs ds → Rep K H S (.ref a) (.tuple ds)
  | dK {a : Addr} {kvs : List (Key × V)} {ds : List D} : ¬ S a → H a = some (.dK kvs) → RepAll K H S (kvs.map (·.2)) ds → Rep K H S (.ref a) (.dict ((kvs.map fun p => kD p.1).zip ds))
  | dT {a : Addr} {kvs : List (List Key × V)} {ds : List D} : ¬ S a → H a = some (.dT kvs) → RepAll K H S (kvs.map (·.2)) ds → Rep K H S (.ref a) (.dict ((.none, .none) :: (kvs.map fun p => tD p.1).zip ds))
  | xt {a : Addr} {o : Obj} {xs : List V} {ds : List D} : ¬ S a → H a = some (.frz o (.tup xs)) → o.dict = none → xs.length ≤ sizeLine → RepAll K H S xs ds → Rep K H S (.ref a) (.dict [(.none, .tuple ds)])
inductive RepAll (K : PySem.W.Frag) (H : Hp) (S : Addr → Prop) : List V → List D → Prop
  | nil : RepAll K H S [] []
  | cons {v : V} {vs : List V} {d : D} {ds : List D} : Rep K H S v d → RepAll K H S vs ds → RepAll K H S (v :: vs) (d :: ds)
end
end

section
variable {K : PySem.W.Frag} {H H' : Hp} {S S' : Addr → Prop}
theorem rd_keep {a : Addr} {u : HO} (k : ∀ o, H a = some o → H' a = some o) (h : Rd H a u) : Rd H' a u := by
  rcases h with h | ⟨o, h⟩
  · exact .inl (k _ h)
  · exact .inr ⟨o, k _ h⟩
theorem rd_tracked {a : Addr} {u : HO} (h : Rd H a u) : H a ≠ none := by
  rcases h with h | ⟨o, h⟩ <;> rw [h] <;> simp
mutual
/-- what is kept off S stays told; S' may be wider by what was not there -/
theorem Rep.keep (k : ∀ a o, ¬ S a → H a = some o → H' a = some o) (hs : ∀ a, S' a → S a ∨ H a = none) : ∀ {d : D} {v : V}, Rep K H S v d → Rep K H' S' v d
  | _, _, .non => .non
  | _, _, .bl b => .bl b
  | _, _, .int i => .int i
  | _, _, .str x => .str x
  | _, _, .lst n r z al => .lst (fun q => (hs _ q).elim n fun e => rd_tracked r e) (rd_keep (fun o e => k _ o n e) r) z (al.keep k hs)
  | _, _, .tup n r z al => .tup (fun q => (hs _ q).elim n fun e => by rw [r] at e; cases e) (k _ _ n r) z (al.keep k hs)
  | _, _, .dK n r al => .dK (fun q => (hs _ q).elim n fun e => by rw [r] at e; cases e) (k _ _ n r) (al.keep k hs)
  | _, _, .dT n r al => .dT (fun q => (hs _ q).elim n fun e => by rw [r] at e; cases e) (k _ _ n r) (al.keep k hs)
  | _, _, .xt n r e z al => .xt (fun q => (hs _ q).elim n fun e => by rw [r] at e; cases e) (k _ _ n r) e z (al.keep k hs)
theorem RepAll.keep (k : ∀ a o, ¬ S a → H a = some o → H' a = some o) (hs : ∀ a, S' a → S a ∨ H a = none) : ∀ {ds : List D} {vs : List V}, RepAll K H S vs ds → RepAll K H' S' vs ds
  | _, _, .nil => .nil
  | _, _, .cons r t => .cons (r.keep k hs) (t.keep k hs)
end
theorem RepAll.length : ∀ {vs : List V} {ds : List D}, RepAll K H S vs ds → vs.length = ds.length
  | _, _, .nil => rfl
  | _, _, .cons _ t => by simp [RepAll.length t]
theorem RepAll.get : ∀ {vs : List V} {ds : List D} {i : Nat} {d : D}, RepAll K H S vs ds → ds[i]? = some d → ∃ v, vs[i]? = some v ∧ Rep K H S v d
  | _, _, _, _, .nil, e => by simp at e
  | _, _, 0, _, .cons r _, e => by simp at e; subst e; exact ⟨_, rfl, r⟩
  | _, _, i + 1, d, .cons _ t, e => by
    obtain ⟨u, h1, h2⟩ := RepAll.get (i := i) (d := d) t (by simpa using e)
    exact ⟨u, by simpa using h1, h2⟩
theorem RepAll.getV : ∀ {vs : List V} {ds : List D} {i : Nat} {v : V}, RepAll K H S vs ds → vs[i]? = some v → ∃ d, ds[i]? = some d ∧ Rep K H S v d
  | _, _, _, _, .nil, e => by simp at e
  | _, _, 0, _, .cons r _, e => by simp at e; subst e; exact ⟨_, rfl, r⟩
  | _, _, i + 1, d, .cons _ t, e => by
    obtain ⟨u, h1, h2⟩ := RepAll.getV (i := i) (v := d) t (by simpa using e)
    exact ⟨u, by simpa using h1, h2⟩
theorem RepAll.append : ∀ {vs ws : List V} {ds es : List D}, RepAll K H S vs ds → RepAll K H S ws es → RepAll K H S (vs ++ ws) (ds ++ es)
  | _, _, _, _, .nil, s => s
  | _, _, _, _, .cons r t, s => .cons r (RepAll.append t s)
theorem RepAll.take : ∀ {vs : List V} {ds : List D} (n : Nat), RepAll K H S vs ds → RepAll K H S (vs.take n) (ds.take n)
  | _, _, 0, _ => by simp; exact .nil
  | _, _, _ + 1, .nil => .nil
  | _, _, n + 1, .cons r t => .cons r (RepAll.take n t)
theorem RepAll.drop : ∀ {vs : List V} {ds : List D} (n : Nat), RepAll K H S vs ds → RepAll K H S (vs.drop n) (ds.drop n)
  | _, _, 0, h => h
  | _, _, _ + 1, .nil => .nil
  | _, _, n + 1, .cons _ t => RepAll.drop n t
theorem RepAll.reverse : ∀ {vs : List V} {ds : List D}, RepAll K H S vs ds → RepAll K H S vs.reverse ds.reverse
  | _, _, .nil => .nil
  | _, _, .cons r t => by simp only [List.reverse_cons]; exact (RepAll.reverse t).append (.cons r .nil)
theorem RepAll.eraseIdx : ∀ {vs : List V} {ds : List D} (n : Nat), RepAll K H S vs ds → RepAll K H S (vs.eraseIdx n) (ds.eraseIdx n)
  | _, _, _, .nil => .nil
  | _, _, 0, .cons _ t => t
  | _, _, n + 1, .cons r t => .cons r (RepAll.eraseIdx n t)
theorem RepAll.set {v : V} {d : D} (r : Rep K H S v d) : ∀ {vs : List V} {ds : List D} (n : Nat), RepAll K H S vs ds → RepAll K H S (vs.set n v) (ds.set n d)
  | _, _, _, .nil => .nil
  | _, _, 0, .cons _ t => .cons r t
  | _, _, n + 1, .cons q t => .cons q (RepAll.set r n t)
theorem RepAll.rep {vs : List V} {ds : List D} (h : RepAll K H S vs ds) : ∀ k : Nat, RepAll K H S (List.replicate k vs).flatten (List.replicate k ds).flatten
  | 0 => .nil
  | k + 1 => by simp only [List.replicate_succ, List.flatten_cons]; exact h.append (h.rep k)
theorem Rep.toInt {v : V} {i : Int} (r : Rep K H S v (.int i)) : v = .int i := by cases r; rfl
theorem Rep.toBl {v : V} {i : Bool} (r : Rep K H S v (.bool i)) : v = .bl i := by cases r; rfl
theorem Rep.toStr {v : V} {i : Str} (r : Rep K H S v (.str i)) : v = .str i := by cases r; rfl
theorem Rep.toNon {v : V} (r : Rep K H S v .none) : v = .non := by cases r; rfl
theorem Rep.toTup {v : V} {ds : List D} (r : Rep K H S v (.tuple ds)) : ∃ a xs, v = .ref a ∧ ((¬ S a ∧ Rd H a (.tup xs)) ∨ KTup K a xs) ∧ xs.length ≤ sizeLine ∧ RepAll K H S xs ds := by
  cases r with | tup n r z al => exact ⟨_, _, rfl, .inl ⟨n, .inl r⟩, z, al⟩
theorem Rep.toTupX {v : V} {ds : List D} (r : Rep K H S v (.tuple ds)) : ∃ a xs, v = .ref a ∧ ¬ S a ∧ H a = some (.tup xs) ∧ xs.length ≤ sizeLine ∧ RepAll K H S xs ds := by
  cases r with | tup n r z al => exact ⟨_, _, rfl, n, r, z, al⟩
theorem Rep.toXt {v : V} {ds : List D} (r : Rep K H S v (xtD ds)) : ∃ a o xs, v = .ref a ∧ ¬ S a ∧ H a = some (.frz o (.tup xs)) ∧ o.dict = none ∧ xs.length ≤ sizeLine ∧ RepAll K H S xs ds := by
  unfold xtD at r
  generalize hd : PyData.dict [(.none, .tuple ds)] = d at r
  cases r with
  | xt n r e z al => cases hd; exact ⟨_, _, _, rfl, n, r, e, z, al⟩
  | @dK a kvs ds' n r al =>
    have := (PyData.dict.inj hd).symm
    cases kvs with
    | nil => simp at this
    | cons p kvs => cases ds' with
      | nil => simp at this
      | cons x ds' =>
        simp at this
        obtain ⟨⟨h1, _⟩, _⟩ := this
        cases hp : p.1 <;> rw [hp] at h1 <;> cases h1
  | dT n r al => cases hd
  | _ => cases hd
theorem sqT_of {a : Addr} {xs : List V} (h : (¬ S a ∧ Rd H a (.tup xs)) ∨ KTup K a xs) : SqT K H a xs := h.elim (fun q => .inl q.2) .inr
end

/-- a tuple, known whole or not -/
def tupOf : D → Option (List D)
  | .tuple xs => some xs
  | .dict [(.none, .tuple xs)] => some xs
  | _ => none
theorem tupOf_cases {d : D} {ds : List D} (h : tupOf d = some ds) : d = .tuple ds ∨ d = xtD ds := by
  unfold tupOf at h
  split at h
  · cases h; exact .inl rfl
  · cases h; exact .inr rfl
  · cases h
theorem Rep.toTupO {K : PySem.W.Frag} {H : Hp} {S : Addr → Prop} {v : V} {d : D} {ds : List D} (h : tupOf d = some ds) (r : Rep K H S v d) : ∃ a xs, v = .ref a ∧ ((¬ S a ∧ Rd H a (.tup xs)) ∨ KTup K a xs) ∧ xs.length ≤ sizeLine ∧ RepAll K H S xs ds := by
  rcases tupOf_cases h with rfl | rfl
  · exact r.toTup
  · obtain ⟨a, o, xs, rfl, n, e, _, z, al⟩ := r.toXt
    exact ⟨a, xs, rfl, .inl ⟨n, .inr ⟨o, e⟩⟩, z, al⟩
/-- a dict's data is no tuple's, but for one -/
theorem dict_xt (kvs : List (D × D)) : (∃ xs, kvs = [(.none, .tuple xs)]) ∨ ∀ xs, kvs ≠ [(.none, .tuple xs)] := by
  by_cases h : ∃ xs, kvs = [(.none, .tuple xs)]
  · exact .inl h
  · exact .inr fun xs e => h ⟨xs, e⟩
/-- at a stands a list, or a dict, that may be written -/
inductive Obj1 (K : PySem.W.Frag) (H : Hp) (S : Addr → Prop) (a : Addr) : D → Prop
  | lst {xs : List V} {ds : List D} : H a = some (.lst xs) → xs.length ≤ sizeLine → RepAll K H S xs ds → Obj1 K H S a (.list ds)
  | dK {kvs : List (Key × V)} {ds : List D} : H a = some (.dK kvs) → RepAll K H S (kvs.map (·.2)) ds → Obj1 K H S a (.dict ((kvs.map fun p => kD p.1).zip ds))
  | dT {kvs : List (List Key × V)} {ds : List D} : H a = some (.dT kvs) → RepAll K H S (kvs.map (·.2)) ds → Obj1 K H S a (.dict ((.none, .none) :: (kvs.map fun p => tD p.1).zip ds))
/-- .. that may be read -/
inductive ObjR (K : PySem.W.Frag) (H : Hp) (S : Addr → Prop) (a : Addr) : D → Prop
  | lst {xs : List V} {ds : List D} : Rd H a (.lst xs) → xs.length ≤ sizeLine → RepAll K H S xs ds → ObjR K H S a (.list ds)
  | dK {kvs : List (Key × V)} {ds : List D} : H a = some (.dK kvs) → RepAll K H S (kvs.map (·.2)) ds → ObjR K H S a (.dict ((kvs.map fun p => kD p.1).zip ds))
  | dT {kvs : List (List Key × V)} {ds : List D} : H a = some (.dT kvs) → RepAll K H S (kvs.map (·.2)) ds → ObjR K H S a (.dict ((.none, .none) :: (kvs.map fun p => tD p.1).zip ds))
section
variable {K : PySem.W.Frag} {H H' : Hp} {S S' : Addr → Prop} {a : Addr} {d : D}
theorem Obj1.r (h : Obj1 K H S a d) : ObjR K H S a d := by
  cases h with
  | lst e z al => exact .lst (.inl e) z al
  | dK e al => exact .dK e al
  | dT e al => exact .dT e al
theorem Obj1.tracked (h : Obj1 K H S a d) : H a ≠ none := by cases h <;> simp_all
theorem ObjR.tracked (h : ObjR K H S a d) : H a ≠ none := by
  cases h with
  | lst e z al => exact rd_tracked e
  | dK e al => simp [e]
  | dT e al => simp [e]
theorem Obj1.keep (h : Obj1 K H S a d) (e : ∀ o, H a = some o → H' a = some o) (k : ∀ a o, ¬ S a → H a = some o → H' a = some o) (hs : ∀ a, S' a → S a ∨ H a = none) : Obj1 K H' S' a d := by
  cases h with
  | lst q z al => exact .lst (e _ q) z (al.keep k hs)
  | dK q al => exact .dK (e _ q) (al.keep k hs)
  | dT q al => exact .dT (e _ q) (al.keep k hs)
theorem ObjR.keep (h : ObjR K H S a d) (e : ∀ o, H a = some o → H' a = some o) (k : ∀ a o, ¬ S a → H a = some o → H' a = some o) (hs : ∀ a, S' a → S a ∨ H a = none) : ObjR K H' S' a d := by
  cases h with
  | lst q z al => exact .lst (rd_keep e q) z (al.keep k hs)
  | dK q al => exact .dK (e _ q) (al.keep k hs)
  | dT q al => exact .dT (e _ q) (al.keep k hs)

/-- a thing that stands apart from S is told -/
theorem ObjR.rep (h : ObjR K H S a d) (n : ¬ S a) : Rep K H S (.ref a) d := by
  cases h with
  | lst q z al => exact .lst n q z al
  | dK q al => exact .dK n q al
  | dT q al => exact .dT n q al
end
theorem ObjR.noXt {K : PySem.W.Frag} {H : Hp} {S : Addr → Prop} {a : Addr} {ds : List D} (r : ObjR K H S a (xtD ds)) : False := by
  unfold xtD at r
  generalize hd : PyData.dict [(.none, .tuple ds)] = d at r
  cases r with
  | lst => cases hd
  | @dK kvs ds' r al =>
    have := (PyData.dict.inj hd).symm
    cases kvs with
    | nil => simp at this
    | cons p kvs => cases ds' with
      | nil => simp at this
      | cons x ds' =>
        simp at this
        obtain ⟨⟨h1, _⟩, _⟩ := this
        cases hp : p.1 <;> rw [hp] at h1 <;> cases h1
  | dT r al => cases hd
/-- what may be read just now: told, or a list or dict that someone may write -/
def RdB (K : PySem.W.Frag) (H : Hp) (S : Addr → Prop) (v : V) (d : D) : Prop := Rep K H S v d ∨ ∃ a, v = .ref a ∧ ObjR K H S a d

def Pool (H : Hp) (a : Addr) : Prop := ∃ x y z : Int, H a = some (.lst [.int x, .int y, .int z])

/-- an answer of a kind; H0: the heap ahead of it -/
def Res (K : PySem.W.Frag) (g : Rg) (k : RK) (H0 H : Hp) (v : V) (d : D) : Prop := match k with
  | .fz => Rep K H g.own v d
  | .rd => Rep K H g.own v d ∨ ∃ a, v = .ref a ∧ ¬ g.P a ∧ g.I a ∧ ObjR K H g.own a d
  | .nw => ∃ p, v = .ref p ∧ H0 p = none ∧ g.O p ∧ ¬ g.P p ∧ Obj1 K H g.own p d
  | .ow i => ∃ a, v = .ref a ∧ g.al i = some a ∧ Obj1 K H g.own a d
  | .pl => ∃ a, v = .ref a ∧ g.P a ∧ d = .none
  | .np => ∃ p, v = .ref p ∧ H0 p = none ∧ g.O p ∧ ¬ g.P p ∧ Pool H p ∧ d = .none
def SlotK (K : PySem.W.Frag) (g : Rg) (H : Hp) (k : SK) (i : Nat) (v : V) (d : D) : Prop := match k with
  | .v => Rep K H g.own v d
  | .r => Rep K H g.own v d ∨ ∃ a, v = .ref a ∧ ¬ g.P a ∧ g.I a ∧ ObjR K H g.own a d
  | .o => ∃ a, v = .ref a ∧ g.al i = some a ∧ Obj1 K H g.own a d
  | .q => ∃ a, v = .ref a ∧ g.al i = some a ∧ Obj1 K H g.own a d
  | .p => ∃ a, v = .ref a ∧ g.P a ∧ d = .none
  | .f => (∃ a, v = .ref a ∧ g.al i = some a ∧ Obj1 K H g.own a d) ∨ ∃ d', d = .tuple [d'] ∧ Rep K H g.own v d'
def kindOf (κ : List SK) (i : Nat) : SK := (κ[i]?).getD .v

/-- something stands there, no tuple -/
def Tk (H : Hp) (a : Addr) : Prop := H a ≠ none ∧ ∀ xs, H a ≠ some (.tup xs)
theorem Obj1.tk {K : PySem.W.Frag} {H : Hp} {S : Addr → Prop} {a : Addr} {d : D} (h : Obj1 K H S a d) : Tk H a := by cases h <;> simp_all [Tk]
theorem Pool.tk {H : Hp} {a : Addr} (h : Pool H a) : Tk H a := by obtain ⟨x, y, z, e⟩ := h; simp [Tk, e]
theorem Tk.of {H H' : Hp} {a : Addr} (h : Tk H a) (k : ∀ o, H a = some o → H' a = some o) : Tk H' a := by
  cases e : H a with
  | none => exact absurd e h.1
  | some o => exact ⟨by rw [k o e]; simp, fun xs z => h.2 xs (by rw [e]; rw [k o e] at z; exact z)⟩
structure Frm (K : PySem.W.Frag) (κ : List SK) (g : Rg) (env : En) (σ : St) (H : Hp) : Prop where
  ln : env.length = κ.length
  sl : σ.length = κ.length
  ev : ∀ i d, env[i]? = some (some d) → ∃ v, σ[i]? = some (some v) ∧ SlotK K g H (kindOf κ i) i v d
  inj : ∀ i j a, g.al i = some a → g.al j = some a → i = j
  alo' : ∀ i a, g.al i = some a → ¬ g.O a ∧ Tk H a
  ot' : ∀ a, g.O a → Tk H a
  il : ∀ a, g.I a → g.O a
  pl : ∀ a, g.P a → g.O a ∧ Pool H a

/-- an expression's step: M, the slots whose own things may have changed -/
structure EStep (M : List Nat) (g g' : Rg) (H H' : Hp) : Prop where
  al : g'.al = g.al
  P : g'.P = g.P
  I : g'.I = g.I
  up : ∀ a, g.O a → g'.O a
  dn : ∀ a, g'.O a → g.O a ∨ H a = none
  keep : ∀ b o, H b = some o → ¬ g.P b → (∀ i ∈ M, g.al i ≠ some b) → H' b = some o
  pool : ∀ b, g.P b → Pool H b → Pool H' b

/-- an expression of this reading -/
def cE (K : PySem.W.Frag) (κ : List SK) (M : List Nat) (k : RK) (w : WE) : TE := fun σ H Q => ∃ g env W, Frm K κ g env σ H ∧ w env W ∧
  ∀ v H' g' env' d, Frm K κ g' env' σ H' → EStep M g g' H H' → Res K g' k H H' v d → W d env' → Q v H'
def SE (X : Cx) (κ : List SK) (M : List Nat) (k : RK) (e : Expr) (w : WE) : Prop := PE X e (cE X.K κ M k w)
def cT (K : PySem.W.Frag) (κ : List SK) (M : List Nat) (w : WT) : TT := fun σ H Q => ∃ g env W, Frm K κ g env σ H ∧ w env W ∧
  ∀ b H' g' env', Frm K κ g' env' σ H' → EStep M g g' H H' → W b env' → Q b H'
def ST (X : Cx) (κ : List SK) (M : List Nat) (e : Expr) (w : WT) : Prop := PT X e (cT X.K κ M w)

section
variable {K : PySem.W.Frag} {κ : List SK} {g g' g2 : Rg} {env env' : En} {σ : St} {H H' H2 : Hp} {M M' : List Nat} {v : V} {d : D}
theorem EStep.refl : EStep M g g H H := ⟨rfl, rfl, rfl, fun _ h => h, fun _ h => .inl h, fun _ _ h _ _ => h, fun _ _ h => h⟩
theorem EStep.same (s : ∀ b o, H b = some o → H' b = some o) : EStep M g g H H' := ⟨rfl, rfl, rfl, fun _ h => h, fun _ h => .inl h, fun b o h _ _ => s b o h, fun _ _ ⟨x, y, z, e⟩ => ⟨x, y, z, s _ _ e⟩⟩
theorem EStep.mono (h : EStep M g g' H H') (s : ∀ i ∈ M, i ∈ M') : EStep M' g g' H H' := ⟨h.al, h.P, h.I, h.up, h.dn, fun b o e p q => h.keep b o e p fun i hi => q i (s i hi), h.pool⟩
theorem Frm.alo (f : Frm K κ g env σ H) (i : Nat) (a : Addr) (e : g.al i = some a) : ¬ g.O a ∧ H a ≠ none := ⟨(f.alo' i a e).1, (f.alo' i a e).2.1⟩
theorem Frm.ot (f : Frm K κ g env σ H) (a : Addr) (q : g.O a) : H a ≠ none := (f.ot' a q).1
theorem Frm.own_tk (f : Frm K κ g env σ H) {a : Addr} (h : g.own a) : Tk H a := h.elim (f.ot' a) fun ⟨i, e⟩ => (f.alo' i a e).2
/-- a tuple is nobody's own -/
theorem Frm.own_nt (f : Frm K κ g env σ H) {a : Addr} {xs : List V} (e : H a = some (.tup xs)) : ¬ g.own a := fun q => (f.own_tk q).2 xs e
theorem Frm.own_ne (f : Frm K κ g env σ H) {a : Addr} (h : g.own a) : H a ≠ none := by
  rcases h with h | ⟨i, h⟩
  · exact f.ot a h
  · exact (f.alo i a h).2
theorem Frm.p_own (f : Frm K κ g env σ H) {a : Addr} (h : g.P a) : g.own a := .inl (f.pl a h).1
/-- what is tracked stays tracked -/
theorem EStep.there {σ' : St} (h : EStep M g g' H H') (f : Frm K κ g env σ H) (f' : Frm K κ g' env' σ' H') {a : Addr} (e : H' a = none) : H a = none := by
  cases q : H a with
  | none => rfl
  | some o =>
    by_cases hp : g.P a
    · have := h.pool a hp (f.pl a hp).2
      obtain ⟨x, y, z, r⟩ := this
      rw [r] at e; cases e
    · by_cases hm : ∀ i ∈ M, g.al i ≠ some a
      · rw [h.keep a o q hp hm] at e; cases e
      · have : ∃ i, i ∈ M ∧ g.al i = some a := by
          apply Classical.byContradiction
          intro c
          exact hm fun i hi z => c ⟨i, hi, z⟩
        obtain ⟨i, hi, z⟩ := this
        exact absurd e (f'.alo i a (by rw [h.al]; exact z)).2
theorem EStep.trans {σ' : St} (h : EStep M g g' H H') (h2 : EStep M' g' g2 H' H2) (f : Frm K κ g env σ H) (f' : Frm K κ g' env' σ' H') : EStep (M ++ M') g g2 H H2 := by
  refine ⟨h2.al.trans h.al, h2.P.trans h.P, h2.I.trans h.I, fun a q => h2.up a (h.up a q), fun a q => ?_, fun b o e p q => ?_, fun b p q => h2.pool b (by rw [h.P]; exact p) (h.pool b p q)⟩
  · rcases h2.dn a q with z | z
    · exact h.dn a z
    · exact .inr (h.there f f' z)
  · exact h2.keep b o (h.keep b o e p fun i hi => q i (List.mem_append_left _ hi)) (by rw [h.P]; exact p) fun i hi => by rw [h.al]; exact q i (List.mem_append_right _ hi)
/-- off the owned things all is kept -/
theorem EStep.off (h : EStep M g g' H H') (f : Frm K κ g env σ H) : ∀ a o, ¬ g.own a → H a = some o → H' a = some o := fun a o n e =>
  h.keep a o e (fun p => n (f.p_own p)) fun i _ z => n (.inr ⟨i, z⟩)
theorem EStep.own (h : EStep M g g' H H') : ∀ a, g'.own a → g.own a ∨ H a = none := fun a q => by
  rcases q with q | ⟨i, q⟩
  · exact (h.dn a q).imp .inl id
  · rw [h.al] at q; exact .inl (.inr ⟨i, q⟩)
def stable (k : RK) (M : List Nat) : Bool := match k with
  | .ow i => !M.contains i
  | _ => true
/-- an answer stays told through a further step -/
theorem Res.step {k : RK} {H0 : Hp} (r : Res K g k H0 H v d) (h : EStep M g g' H H') (f : Frm K κ g env σ H) (hs : stable k M = true) : Res K g' k H0 H' v d := by
  have ko := h.off f
  have ho := h.own
  cases k with
  | fz => exact Rep.keep ko ho r
  | rd =>
    rcases r with r | ⟨a, rfl, np, na, r⟩
    · exact .inl (Rep.keep ko ho r)
    · refine .inr ⟨a, rfl, by rw [h.P]; exact np, by rw [h.I]; exact na, r.keep (fun o e => h.keep a o e np fun i _ z => (f.alo i a z).1 (f.il a na)) ko ho⟩
  | nw =>
    obtain ⟨p, rfl, n, hO, hP, r⟩ := r
    refine ⟨p, rfl, n, h.up p hO, by rw [h.P]; exact hP, r.keep (fun o e => h.keep p o e hP fun i _ z => (f.alo i p z).1 hO) ko ho⟩
  | ow i =>
    obtain ⟨a, rfl, e, r⟩ := r
    refine ⟨a, rfl, by rw [h.al]; exact e, r.keep (fun o q => h.keep a o q (fun p => (f.alo i a e).1 (f.pl a p).1) fun j hj z => ?_) ko ho⟩
    have : j = i := f.inj j i a z e
    subst this
    simp [stable] at hs
    exact hs hj
  | pl =>
    obtain ⟨a, rfl, p, e⟩ := r
    exact ⟨a, rfl, by rw [h.P]; exact p, e⟩
  | np =>
    obtain ⟨p, rfl, n, hO, hP, ⟨x, y, z, r⟩, e⟩ := r
    exact ⟨p, rfl, n, h.up p hO, by rw [h.P]; exact hP, ⟨x, y, z, h.keep p _ r hP fun i _ z => (f.alo i p z).1 hO⟩, e⟩
/-- whatever the kind (but a pool), it may be read now -/
theorem Res.rdb {k : RK} {H0 : Hp} (r : Res K g k H0 H v d) (hk : k.rdable = true) : RdB K H g.own v d := by
  cases k with
  | fz => exact .inl r
  | rd => exact r.imp id fun ⟨a, e, _, _, q⟩ => ⟨a, e, q⟩
  | nw => obtain ⟨p, e, _, _, _, q⟩ := r; exact .inr ⟨p, e, q.r⟩
  | ow i => obtain ⟨p, e, _, q⟩ := r; exact .inr ⟨p, e, q.r⟩
  | pl => simp [RK.rdable] at hk
  | np => simp [RK.rdable] at hk
end
end G7

set_option maxRecDepth 100000
/-! rules for expressions -/
namespace G7
open PySem PySem.Spec PyProof.Rows L2

section
variable {K : PySem.W.Frag} {κ : List SK} {g g' g2 : Rg} {env env' : En} {σ : St} {H H' H2 : Hp} {M M' : List Nat} {v : V} {d : D}
theorem EStep.tr {σ' : St} (h : EStep M g g' H H') (h2 : EStep M g' g2 H' H2) (f : Frm K κ g env σ H) (f' : Frm K κ g' env' σ' H') : EStep M g g2 H H2 :=
  (h.trans h2 f f').mono fun i hi => (List.mem_append.mp hi).elim id id
theorem Res.back {k : RK} {H0 H1 : Hp} (r : Res K g k H1 H v d) (t : ∀ p, H1 p = none → H0 p = none) : Res K g k H0 H v d := by
  cases k with
  | fz => exact r
  | rd => exact r
  | nw => obtain ⟨p, e, n, q⟩ := r; exact ⟨p, e, t p n, q⟩
  | ow i => exact r
  | pl => exact r
  | np => obtain ⟨p, e, n, q⟩ := r; exact ⟨p, e, t p n, q⟩
theorem RdB.keep (r : RdB K H g.own v d) (k : ∀ b o, H b = some o → H' b = some o) (hs : ∀ a, g'.own a → g.own a ∨ H a = none) : RdB K H' g'.own v d := by
  rcases r with r | ⟨a, e, r⟩
  · exact .inl (Rep.keep (fun a o _ q => k a o q) hs r)
  · exact .inr ⟨a, e, r.keep (fun o q => k a o q) (fun a o _ q => k a o q) hs⟩
/-- a step that keeps all but the pools -/
theorem Frm.next (f : Frm K κ g env σ H) (k : ∀ b o, H b = some o → ¬ g.P b → H' b = some o) (kp : ∀ b, g.P b → Pool H' b) (al : g'.al = g.al) (P : g'.P = g.P) (hI : g'.I = g.I) (up : ∀ a, g.P a → g'.O a) (ui : ∀ a, g.I a → g'.O a)
    (dn : ∀ a, g'.O a → g.O a ∨ (H a = none ∧ Tk H' a)) : Frm K κ g' env σ H' := by
  have nP : ∀ i a, g.al i = some a → ¬ g.P a := fun i a e p => (f.alo i a e).1 (f.pl a p).1
  have own : ∀ a, g'.own a → g.own a ∨ H a = none := fun a q => by
    rcases q with q | ⟨i, q⟩
    · exact (dn a q).imp .inl (·.1)
    · rw [al] at q; exact .inl (.inr ⟨i, q⟩)
  have off : ∀ a o, ¬ g.own a → H a = some o → H' a = some o := fun a o n e => k a o e fun p => n (f.p_own p)
  have there : ∀ a, Tk H a → Tk H' a := fun a h => by
    by_cases p : g.P a
    · exact (kp a p).tk
    · exact h.of fun o e => k a o e p
  refine ⟨f.ln, f.sl, fun i d e => ?_, by rw [al]; exact f.inj, fun i a e => ?_, fun a q => ?_, fun a q => by rw [hI] at q; exact ui a q, fun a p => ?_⟩
  · obtain ⟨v, e1, s⟩ := f.ev i d e
    refine ⟨v, e1, ?_⟩
    cases hk : kindOf κ i <;> rw [hk] at s <;> unfold SlotK at s ⊢ <;> simp only at s ⊢
    · exact Rep.keep off own s
    · rcases s with s | ⟨a, rfl, np, na, s⟩
      · exact .inl (Rep.keep off own s)
      · exact .inr ⟨a, rfl, by rw [P]; exact np, by rw [hI]; exact na, s.keep (fun o q => k a o q np) off own⟩
    · obtain ⟨a, rfl, ea, s⟩ := s
      exact ⟨a, rfl, by rw [al]; exact ea, s.keep (fun o q => k a o q (nP i a ea)) off own⟩
    · obtain ⟨a, rfl, ea, s⟩ := s
      exact ⟨a, rfl, by rw [al]; exact ea, s.keep (fun o q => k a o q (nP i a ea)) off own⟩
    · obtain ⟨a, rfl, p, s⟩ := s
      exact ⟨a, rfl, by rw [P]; exact p, s⟩
    · rcases s with ⟨a, rfl, ea, s⟩ | ⟨d', e', s⟩
      · exact .inl ⟨a, rfl, by rw [al]; exact ea, s.keep (fun o q => k a o q (nP i a ea)) off own⟩
      · exact .inr ⟨d', e', Rep.keep off own s⟩
  · rw [al] at e
    refine ⟨fun q => ?_, there a (f.alo' i a e).2⟩
    rcases dn a q with z | ⟨z, _⟩
    · exact (f.alo i a e).1 z
    · exact (f.alo i a e).2 z
  · rcases dn a q with z | ⟨_, z⟩
    · exact there a (f.ot' a z)
    · exact z
  · rw [P] at p
    exact ⟨up a p, kp a p⟩
theorem Frm.same (f : Frm K κ g env σ H) (k : ∀ b o, H b = some o → H' b = some o) : Frm K κ g env σ H' :=
  f.next (fun b o e _ => k b o e) (fun b p => by obtain ⟨x, y, z, e⟩ := (f.pl b p).2; exact ⟨x, y, z, k _ _ e⟩) rfl rfl rfl (fun a p => (f.pl a p).1) f.il fun a q => .inl q
def Rg.add (g : Rg) (p : Addr) : Rg := { g with O := fun a => g.O a ∨ a = p }
theorem Rg.add_own {p a : Addr} : (g.add p).own a ↔ g.own a ∨ a = p := by
  unfold Rg.own Rg.add
  constructor
  · rintro ((h | h) | h)
    · exact .inl (.inl h)
    · exact .inr h
    · exact .inl (.inr h)
  · rintro ((h | h) | h)
    · exact .inl (.inl h)
    · exact .inr h
    · exact .inl (.inr h)
theorem same_new {p : Addr} {o : HO} (h : H p = none) : ∀ b x, H b = some x → (upd H p o) b = some x := fun b x e => by rw [upd_ne (ne_of_none e h)]; exact e
/-- a new thing at p, owned by the expression -/
theorem Frm.new (f : Frm K κ g env σ H) {p : Addr} {o : HO} (h : H p = none) (ht : ∀ xs, o ≠ .tup xs := by intro _ h; cases h) : Frm K κ (g.add p) env σ (upd H p o) :=
  f.next (fun b x e _ => same_new h b x e) (fun b q => by obtain ⟨x, y, z, e⟩ := (f.pl b q).2; exact ⟨x, y, z, same_new h _ _ e⟩) rfl rfl rfl (fun a q => .inl (f.pl a q).1) (fun a q => .inl (f.il a q))
    fun a q => q.imp id fun e => by subst e; exact ⟨h, by rw [upd_same]; simp, fun xs z => by rw [upd_same] at z; exact ht xs (Option.some.inj z)⟩
theorem EStep.new {p : Addr} {o : HO} (h : H p = none) : EStep M g (g.add p) H (upd H p o) :=
  ⟨rfl, rfl, rfl, fun _ q => .inl q, fun a q => q.imp id fun e => by subst e; exact h, fun b x e _ _ => same_new h b x e, fun b _ q => by obtain ⟨x, y, z, e⟩ := q; exact ⟨x, y, z, same_new h _ _ e⟩⟩
theorem EStep.new0 {p : Addr} {o : HO} (h : H p = none) : EStep M g g H (upd H p o) := EStep.same (same_new h)
theorem Frm.new0 (f : Frm K κ g env σ H) {p : Addr} {o : HO} (h : H p = none) : Frm K κ g env σ (upd H p o) := f.same (same_new h)
/-- less is owned -/
theorem Frm.less (f : Frm K κ g env σ H) (al : g'.al = g.al) (P : g'.P = g.P) (hI : g'.I = g.I) (ui : ∀ a, g.I a → g'.O a) (up : ∀ a, g.P a → g'.O a) (dn : ∀ a, g'.O a → g.O a) : Frm K κ g' env σ H :=
  f.next (fun b o e _ => e) (fun b p => (f.pl b p).2) al P hI up ui fun a q => .inl (dn a q)
end

section
variable {X : Cx} {κ : List SK} {M : List Nat} {e a b : Expr} {w wa wb : WE} {k ka kb : RK} {pos : Pos}
theorem SE.of {t : TE} (h : PE X e t) (s : ∀ σ H Q, cE X.K κ M k w σ H Q → t σ H Q) : SE X κ M k e w := ⟨fun pins s0 σ H Q I q => h.run pins s0 σ H Q I (s σ H Q q)⟩
theorem ST.of {c : Expr} {wt : WT} {t : TT} (h : PT X c t) (s : ∀ σ H Q, cT X.K κ M wt σ H Q → t σ H Q) : ST X κ M c wt := ⟨fun pins s0 σ H Q I q => h.run pins s0 σ H Q I (s σ H Q q)⟩
/-- a smaller reading -/
theorem SE.imp {w' : WE} (h : SE X κ M k e w) (i : ∀ en Q, w' en Q → w en Q) : SE X κ M k e w' := SE.of h fun σ H Q ⟨g, env, W, F, hw, post⟩ => ⟨g, env, W, F, i _ _ hw, post⟩
/-- a new thing is given away -/
theorem SE.nf (h : SE X κ M .nw e w) : SE X κ M .fz e w := SE.of h fun σ H Q ⟨g, env, W, F, hw, post⟩ => ⟨g, env, W, F, hw, fun v H' g' env' d F' s ⟨p, e1, n, hO, hP, r⟩ wd => by
  subst e1
  have F2 : Frm X.K κ { g' with O := g.O } env' σ H' := F'.less rfl rfl rfl (fun a q => F.il a (by rw [← s.I]; exact q)) (fun a q => (F.pl a (by rw [← s.P]; exact q)).1) s.up
  refine post _ H' { g' with O := g.O } env' d F2 ⟨s.al, s.P, s.I, fun _ q => q, fun _ q => .inl q, s.keep, s.pool⟩ ?_ wd
  have sub : ∀ a, Rg.own { g' with O := g.O } a → g'.own a := fun a q => q.imp (s.up a) id
  have np : ¬ Rg.own { g' with O := g.O } p := fun q => by
    rcases q with q | ⟨i, q⟩
    · exact F.ot p q n
    · exact (F'.alo i p q).1 hO
  exact (r.r.keep (S' := Rg.own { g' with O := g.O }) (H' := H') (fun _ q => q) (fun _ _ _ q => q) fun a q => .inl (sub a q)).rep np⟩
/-- whatever it is, it is handed on to be read -/
theorem SE.fr (h : SE X κ M .fz e w) : SE X κ M .rd e w := SE.of h fun σ H Q ⟨g, env, W, F, hw, post⟩ => ⟨g, env, W, F, hw, fun v H' g' env' d F' s r wd => post v H' g' env' d F' s (.inl r) wd⟩

/-! names, constants -/
theorem se_v {i : Nat} {x : Str} (h : PE X (.Name x pos) (tVar i)) (hk : kindOf κ i = .v) : SE X κ M .fz (.Name x pos) (wVar i) := SE.of h fun σ H Q ⟨g, env, W, F, ⟨d, e1, hw⟩, post⟩ => by
  obtain ⟨v, e2, s⟩ := F.ev i d e1
  rw [hk] at s
  exact ⟨v, e2, post v H g env d F .refl s hw⟩
theorem se_r {i : Nat} {x : Str} (h : PE X (.Name x pos) (tVar i)) (hk : kindOf κ i = .r) : SE X κ M .rd (.Name x pos) (wVar i) := SE.of h fun σ H Q ⟨g, env, W, F, ⟨d, e1, hw⟩, post⟩ => by
  obtain ⟨v, e2, s⟩ := F.ev i d e1
  rw [hk] at s
  exact ⟨v, e2, post v H g env d F .refl s hw⟩
theorem se_o {i : Nat} {x : Str} (h : PE X (.Name x pos) (tVar i)) (hk : kindOf κ i = .o) : SE X κ M (.ow i) (.Name x pos) (wVar i) := SE.of h fun σ H Q ⟨g, env, W, F, ⟨d, e1, hw⟩, post⟩ => by
  obtain ⟨v, e2, s⟩ := F.ev i d e1
  rw [hk] at s
  exact ⟨v, e2, post v H g env d F .refl s hw⟩
theorem se_q {i : Nat} {x : Str} (h : PE X (.Name x pos) (tVar i)) (hk : kindOf κ i = .q) : SE X κ M (.ow i) (.Name x pos) (wVar i) := SE.of h fun σ H Q ⟨g, env, W, F, ⟨d, e1, hw⟩, post⟩ => by
  obtain ⟨v, e2, s⟩ := F.ev i d e1
  rw [hk] at s
  exact ⟨v, e2, post v H g env d F .refl s hw⟩
theorem se_p {i : Nat} {x : Str} (h : PE X (.Name x pos) (tVar i)) (hk : kindOf κ i = .p) : SE X κ M .pl (.Name x pos) (wVar i) := SE.of h fun σ H Q ⟨g, env, W, F, ⟨d, e1, hw⟩, post⟩ => by
  obtain ⟨v, e2, s⟩ := F.ev i d e1
  rw [hk] at s
  exact ⟨v, e2, post v H g env d F .refl s hw⟩
theorem se_c {v : V} {d : D} (h : PE X e (tC v)) (r : ∀ H S, Rep X.K H S v d) : SE X κ M .fz e (wC d) := SE.of h fun σ H Q ⟨g, env, W, F, hw, post⟩ => post v H g env d F .refl (r _ _) hw
theorem se_int {i j} : SE X κ M .fz (.Constant (.int i) j pos) (wC (.int i)) := se_c pe_int fun _ _ => .int i
theorem se_bl {i j} : SE X κ M .fz (.Constant (.bool i) j pos) (wC (.bool i)) := se_c pe_bl fun _ _ => .bl i
theorem se_non {j} : SE X κ M .fz (.Constant .none j pos) (wC .none) := se_c pe_non fun _ _ => .non
theorem se_str {i j} : SE X κ M .fz (.Constant (.str i) j pos) (wC (.str i)) := se_c pe_str fun _ _ => .str i
theorem se_gint {x : Str} {i : Int} {t : Tok} (hg : Gl X x) (hm : X.mg x = some (.int i t)) (hd : (x == ("__debug__" : Str)) = false := by decide) : SE X κ M .fz (.Name x pos) (wC (.int i)) := se_c (pe_glob (v := .int i) hg hm ⟨t, rfl⟩ hd) fun _ _ => .int i

/-! operators -/
/-- what an operator by values gives over data -/
def OpD (K : PySem.W.Frag) (r : R2) (f : D → D → Option D) (k : RK) : Prop := ∀ (κ : List SK) (g : Rg) (env : En) (σ : St) (H : Hp) (x y : V) (dx dy dz : D) (Q : VK), Frm K κ g env σ H → RdB K H g.own x dx → RdB K H g.own y dy → f dx dy = some dz →
  (∀ v H' g', Frm K κ g' env σ H' → EStep [] g g' H H' → Res K g' k H H' v dz → Q v H') → r x y H Q
def Op1 (K : PySem.W.Frag) (r : V → Hp → VK → Prop) (f : D → Option D) (k : RK) : Prop := ∀ (κ : List SK) (g : Rg) (env : En) (σ : St) (H : Hp) (x : V) (dx dz : D) (Q : VK), Frm K κ g env σ H → RdB K H g.own x dx → f dx = some dz →
  (∀ v H' g', Frm K κ g' env σ H' → EStep [] g g' H H' → Res K g' k H H' v dz → Q v H') → r x H Q
theorem se_tOp {r : R2} {f : D → D → Option D} {E : Expr} (h : PE X E (tOp r (cE X.K κ M ka wa) (cE X.K κ M kb wb))) (hf : OpD X.K r f k) (hs : stable ka M = true) (pa : ka.rdable = true) (pb : kb.rdable = true) : SE X κ M k E (wOp2 f wa wb) :=
  SE.of h fun σ H Q ⟨g, env, W, F, hw, post⟩ => ⟨g, env, _, F, hw, fun x H1 g1 e1 d1 F1 s1 r1 w1 => ⟨g1, e1, _, F1, w1, fun y H2 g2 e2 d2 F2 s2 r2 w2 => by
    obtain ⟨z, ez, wz⟩ := w2
    refine hf κ g2 e2 σ H2 x y d1 d2 z Q F2 ((r1.step s2 F1 hs).rdb pa) (r2.rdb pb) ez fun v H3 g3 F3 s3 r3 => ?_
    have s12 := s1.tr s2 F F1
    exact post v H3 g3 e2 z F3 (s12.tr (s3.mono fun _ q => nomatch q) F F2) (r3.back fun p q => s12.there F F2 q) wz⟩⟩
theorem se_bin {op : Operator} {r : R2} {f : D → D → Option D} (ho : OpR X (binaryOp op) r) (hf : OpD X.K r f k) (ha : SE X κ M ka a wa) (hb : SE X κ M kb b wb) (hs : stable ka M = true := by rfl) (pa : ka.rdable = true := by rfl) (pb : kb.rdable = true := by rfl) :
    SE X κ M k (.BinOp a op b pos) (wOp2 f wa wb) := se_tOp (pe_op ho ha hb) hf hs pa pb
theorem se_cmp {op : CmpOp} {r : R2} {f : D → D → Option D} (ho : OpR X (compareOp op) r) (hf : OpD X.K r f k) (ha : SE X κ M ka a wa) (hb : SE X κ M kb b wb) (hm : behindInMarks op b = false) (hs : stable ka M = true := by rfl) (pa : ka.rdable = true := by rfl) (pb : kb.rdable = true := by rfl) :
    SE X κ M k (.Compare a [op] [b] pos) (wOp2 f wa wb) := se_tOp (pe_cmpR ho ha hb hm) hf hs pa pb
theorem se_ix {r : R2} {f : D → D → Option D} (ho : IxR X r) (hf : OpD X.K r f k) (ha : SE X κ M ka a wa) (hb : SE X κ M kb b wb) (hx : PlainIx b) (hs : stable ka M = true := by rfl) (pa : ka.rdable = true := by rfl) (pb : kb.rdable = true := by rfl) :
    SE X κ M k (.Subscript a b pos) (wOp2 f wa wb) := se_tOp (pe_ix ho ha hb hx) hf hs pa pb
theorem se_un {op : UnaryOp} {r : V → Hp → VK → Prop} {f : D → Option D} (ho : UnR X (unaryOp op) r) (hf : Op1 X.K r f k) (ha : SE X κ M ka a wa) (pa : ka.rdable = true := by rfl) : SE X κ M k (.UnaryOp op a pos) (wOp1 f wa) :=
  SE.of (pe_un ho ha) fun σ H Q ⟨g, env, W, F, hw, post⟩ => ⟨g, env, _, F, hw, fun x H1 g1 e1 d1 F1 s1 r1 w1 => by
    obtain ⟨z, ez, wz⟩ := w1
    refine hf κ g1 e1 σ H1 x d1 z Q F1 (r1.rdb pa) ez fun v H3 g3 F3 s3 r3 => ?_
    exact post v H3 g3 e1 z F3 (s1.tr (s3.mono fun _ q => nomatch q) F F1) (r3.back fun p q => s1.there F F1 q) wz⟩

/-! argument lists -/
def ResA (K : PySem.W.Frag) (g : Rg) (H0 H : Hp) : List RK → List V → List D → Prop
  | [], [], [] => True
  | k :: ks, v :: vs, d :: ds => Res K g k H0 H v d ∧ ResA K g H0 H ks vs ds
  | _, _, _ => False
def cA (K : PySem.W.Frag) (κ : List SK) (M : List Nat) (ks : List RK) (w : WA) : TA := fun σ H Q => ∃ g env W, Frm K κ g env σ H ∧ w env W ∧
  ∀ vs H' g' env' ds, Frm K κ g' env' σ H' → EStep M g g' H H' → ResA K g' H H' ks vs ds → W ds env' → Q vs H'
def SA (X : Cx) (κ : List SK) (M : List Nat) (ks : List RK) (es : List Expr) (w : WA) : Prop := PA X es (cA X.K κ M ks w)
theorem SA.of {es : List Expr} {ks : List RK} {wl : WA} {t : TA} (h : PA X es t) (s : ∀ σ H Q, cA X.K κ M ks wl σ H Q → t σ H Q) : SA X κ M ks es wl := ⟨fun p pins s0 σ H Q I q => h.run p pins s0 σ H Q I (s σ H Q q)⟩
theorem ResA.back {K : PySem.W.Frag} {g : Rg} {H H0 H1 : Hp} (t : ∀ p, H1 p = none → H0 p = none) : ∀ {ks : List RK} {vs : List V} {ds : List D}, ResA K g H1 H ks vs ds → ResA K g H0 H ks vs ds
  | [], [], [], _ => trivial
  | _ :: _, _ :: _, _ :: _, h => ⟨h.1.back t, h.2.back t⟩
  | [], [], _ :: _, h => h.elim
  | [], _ :: _, _, h => h.elim
  | _ :: _, [], _, h => h.elim
  | _ :: _, _ :: _, [], h => h.elim
theorem sa_nil : SA X κ M [] [] waNil := SA.of pa_nil fun σ H Q ⟨g, env, W, F, hw, post⟩ => post [] H g env [] F .refl trivial hw
theorem sa_cons {es : List Expr} {ks : List RK} {wr : WA} (ha : SE X κ M ka a wa) (hr : SA X κ M ks es wr) (hs : stable ka M = true := by rfl) (he : starEach (a :: es) X.env = (false, eval a X.env) :: starEach es X.env := by rfl) : SA X κ M (ka :: ks) (a :: es) (waCons wa wr) :=
  SA.of (pa_cons ha hr he) fun σ H Q ⟨g, env, W, F, hw, post⟩ => ⟨g, env, _, F, hw, fun x H1 g1 e1 d1 F1 s1 r1 w1 => ⟨g1, e1, _, F1, w1, fun ys H2 g2 e2 ds F2 s2 r2 w2 =>
    post (x :: ys) H2 g2 e2 (d1 :: ds) F2 (s1.tr s2 F F1) ⟨(r1.step s2 F1 hs), r2.back fun p q => s1.there F F1 q⟩ w2⟩⟩
theorem ResA.len {K : PySem.W.Frag} {g : Rg} {H H0 : Hp} : ∀ {ks : List RK} {vs : List V} {ds : List D}, ResA K g H0 H ks vs ds → vs.length = ds.length
  | [], [], [], _ => rfl
  | _ :: _, _ :: _, _ :: _, h => by simp [ResA.len h.2]
  | [], [], _ :: _, h => h.elim
  | [], _ :: _, _, h => h.elim
  | _ :: _, [], _, h => h.elim
  | _ :: _, _ :: _, [], h => h.elim
/-- all of them told for good -/
theorem ResA.all {K : PySem.W.Frag} {g : Rg} {H H0 : Hp} : ∀ {ks : List RK} {vs : List V} {ds : List D}, ks.all (· == .fz) = true → ResA K g H0 H ks vs ds → RepAll K H g.own vs ds
  | [], [], [], _, _ => .nil
  | k :: _, _ :: _, _ :: _, hk, h => by
    simp only [List.all_cons, Bool.and_eq_true, beq_iff_eq] at hk
    obtain ⟨e, hk⟩ := hk
    subst e
    exact .cons h.1 (ResA.all hk h.2)
  | [], [], _ :: _, _, h => h.elim
  | [], _ :: _, _, _, h => h.elim
  | _ :: _, [], _, _, h => h.elim
  | _ :: _, _ :: _, [], _, h => h.elim
theorem lim_line {n : Nat} (h : n ≤ lim) : n ≤ sizeLine := Nat.le_trans h (by rw [sizeLine_eq]; decide)
theorem se_tup {es : List Expr} {ks : List RK} {wl : WA} {x1} (h : SA X κ M ks es wl) (hk : ks.all (· == .fz) = true := by rfl) : SE X κ M .fz (.Tuple es x1 pos) (wTup wl) :=
  SE.of (pe_tup h) fun σ H Q ⟨g, env, W, F, hw, post⟩ => ⟨g, env, _, F, hw, fun vs H1 g1 e1 ds F1 s1 r1 w1 => by
    obtain ⟨hl, w1⟩ := w1
    have z : vs.length ≤ sizeLine := by rw [r1.len]; exact lim_line hl
    refine ⟨z, fun p np => post _ _ g1 e1 _ (F1.new0 np) (s1.tr (.new0 np) F F1) ?_ w1⟩
    have own : ¬ g1.own p := fun q => F1.own_ne q np
    exact .tup own upd_same z ((r1.all hk).keep (fun a o _ e => same_new np a o e) fun a q => .inl q)⟩
theorem se_lst {es : List Expr} {ks : List RK} {wl : WA} (h : SA X κ M ks es wl) (hk : ks.all (· == .fz) = true := by rfl) : SE X κ M .nw (.List es pos) (wList wl) :=
  SE.of (pe_lst h) fun σ H Q ⟨g, env, W, F, hw, post⟩ => ⟨g, env, _, F, hw, fun vs H1 g1 e1 ds F1 s1 r1 w1 => by
    obtain ⟨hl, w1⟩ := w1
    have z : vs.length ≤ sizeLine := by rw [r1.len]; exact lim_line hl
    refine ⟨z, fun p np => post _ _ (g1.add p) e1 _ (F1.new np) (s1.tr (.new np) F F1) ⟨p, rfl, s1.there F F1 np, .inr rfl, fun q => F1.own_ne (F1.p_own q) np, .lst upd_same z ?_⟩ w1⟩
    exact (r1.all hk).keep (fun a o _ e => same_new np a o e) fun a q => (Rg.add_own.mp q).imp id fun e => by rw [e]; exact np⟩
/-! built-ins -/
def RdA (K : PySem.W.Frag) (H : Hp) (S : Addr → Prop) : List V → List D → Prop
  | [], [] => True
  | v :: vs, d :: ds => RdB K H S v d ∧ RdA K H S vs ds
  | _, _ => False
theorem ResA.rda {K : PySem.W.Frag} {g : Rg} {H H0 : Hp} : ∀ {ks : List RK} {vs : List V} {ds : List D}, ks.all RK.rdable = true → ResA K g H0 H ks vs ds → RdA K H g.own vs ds
  | [], [], [], _, _ => trivial
  | k :: _, _ :: _, _ :: _, hk, h => by
    simp only [List.all_cons, Bool.and_eq_true] at hk
    exact ⟨h.1.rdb hk.1, ResA.rda hk.2 h.2⟩
  | [], [], _ :: _, _, h => h.elim
  | [], _ :: _, _, _, h => h.elim
  | _ :: _, [], _, _, h => h.elim
  | _ :: _, _ :: _, [], _, h => h.elim
def BlD (K : PySem.W.Frag) (r : List V → Hp → VK → Prop) (f : List D → Option D) (k : RK) : Prop := ∀ (κ : List SK) (g : Rg) (env : En) (σ : St) (H : Hp) (vs : List V) (ds : List D) (dz : D) (Q : VK), Frm K κ g env σ H → RdA K H g.own vs ds → f ds = some dz →
  (∀ v H' g', Frm K κ g' env σ H' → EStep [] g g' H H' → Res K g' k H H' v dz → Q v H') → r vs H Q
theorem se_tCB {r : List V → Hp → VK → Prop} {f : List D → Option D} {E : Expr} {ks : List RK} {wl : WA} (h : PE X E (tCB r (cA X.K κ M ks wl))) (hf : BlD X.K r f k) (hk : ks.all RK.rdable = true) : SE X κ M k E (wBlt f wl) :=
  SE.of h fun σ H Q ⟨g, env, W, F, hw, post⟩ => ⟨g, env, _, F, hw, fun vs H1 g1 e1 ds F1 s1 r1 w1 => by
    obtain ⟨z, ez, wz⟩ := w1
    refine hf κ g1 e1 σ H1 vs ds z Q F1 (r1.rda hk) ez fun v H3 g3 F3 s3 r3 => ?_
    exact post v H3 g3 e1 z F3 (s1.tr (s3.mono fun _ q => nomatch q) F F1) (r3.back fun p q => s1.there F F1 q) wz⟩
end
end G7

set_option maxRecDepth 100000
/-! calls, tests, statements -/
namespace G7
open PySem PySem.Spec PyProof.Rows L2

/-! what a def promises -/
inductive PM where | fz | rd | pl
  deriving DecidableEq
def ArgOk (K : PySem.W.Frag) (H : Hp) (O P : Addr → Prop) (m : PM) (v : V) (d : D) : Prop := match m with
  | .fz => Rep K H O v d
  | .rd => Rep K H O v d ∨ ∃ a, v = .ref a ∧ ¬ P a ∧ O a ∧ ObjR K H O a d
  | .pl => ∃ a, v = .ref a ∧ P a ∧ d = .none
def ArgsOk (K : PySem.W.Frag) (H : Hp) (O P : Addr → Prop) : List PM → List V → List D → Prop
  | [], [], [] => True
  | m :: ms, v :: vs, d :: ds => ArgOk K H O P m v d ∧ ArgsOk K H O P ms vs ds
  | _, _, _ => False
def ResC (K : PySem.W.Frag) (k : RK) (H H' : Hp) (O : Addr → Prop) (v : V) (d : D) : Prop := match k with
  | .nw => ∃ p, v = .ref p ∧ H p = none ∧ Obj1 K H' (fun a => O a ∨ a = p) p d
  | _ => Rep K H' O v d
/-- the promise: S tells of the arguments' data what is wanted of the answer's -/
def spOf (K : PySem.W.Frag) (ms : List PM) (k : RK) (S : FS) : Sp := fun vs H Q _ => ∃ (O P : Addr → Prop) (ds : List D) (Post : D → Prop),
  (∀ a, O a → Tk H a) ∧ (∀ a, P a → O a ∧ Pool H a) ∧ ArgsOk K H O P ms vs ds ∧ S ds Post ∧
  ∀ v H' d, Post d → (∀ b o, H b = some o → ¬ P b → H' b = some o) → (∀ b, P b → Pool H' b) → ResC K k H H' O v d → Q v H'
theorem ArgsOk.len {K : PySem.W.Frag} {H : Hp} {O P : Addr → Prop} : ∀ {ms : List PM} {vs : List V} {ds : List D}, ArgsOk K H O P ms vs ds → vs.length = ms.length ∧ ds.length = ms.length
  | [], [], [], _ => ⟨rfl, rfl⟩
  | _ :: _, _ :: _, _ :: _, h => by have := ArgsOk.len h.2; simp [this.1, this.2]
  | [], [], _ :: _, h => h.elim
  | [], _ :: _, _, h => h.elim
  | _ :: _, [], _, h => h.elim
  | _ :: _, _ :: _, [], h => h.elim
def pass1 : RK → PM → Bool
  | .fz, .fz => true
  | .pl, .pl => true
  | .pl, _ => false
  | .np, _ => false
  | _, .rd => true
  | _, _ => false
def passA : List RK → List PM → Bool
  | [], [] => true
  | k :: ks, m :: ms => pass1 k m && passA ks ms
  | _, _ => false
section
variable {K : PySem.W.Frag} {κ : List SK} {g g' : Rg} {env env' : En} {σ : St} {H H' H0 : Hp} {M : List Nat}
theorem Res.arg {k : RK} {m : PM} {v : V} {d : D} (f : Frm K κ g env σ H) (hp : pass1 k m = true) (r : Res K g k H0 H v d) : ArgOk K H g.own g.P m v d := by
  cases k with
  | fz => cases m <;> first | exact r | exact .inl r | simp [pass1] at hp
  | rd => cases m <;> first | exact r.imp id (fun ⟨a, e, np, hi, q⟩ => ⟨a, e, np, .inl (f.il a hi), q⟩) | simp [pass1] at hp
  | nw => cases m <;> first | (obtain ⟨p, e, _, hO, np, q⟩ := r; exact .inr ⟨p, e, np, .inl hO, q.r⟩) | simp [pass1] at hp
  | ow i => cases m <;> first | (obtain ⟨p, e, ea, q⟩ := r; exact .inr ⟨p, e, fun z => (f.alo i p ea).1 (f.pl p z).1, .inr ⟨i, ea⟩, q.r⟩) | simp [pass1] at hp
  | pl => cases m <;> first | exact r | simp [pass1] at hp
  | np => cases m <;> simp [pass1] at hp
theorem ResA.args (f : Frm K κ g env σ H) : ∀ {ks : List RK} {ms : List PM} {vs : List V} {ds : List D}, passA ks ms = true → ResA K g H0 H ks vs ds → ArgsOk K H g.own g.P ms vs ds
  | [], [], [], [], _, _ => trivial
  | k :: ks, m :: ms, v :: vs, d :: ds, hp, h => by
    simp only [passA, Bool.and_eq_true] at hp
    exact ⟨h.1.arg f hp.1, ResA.args f hp.2 h.2⟩
  | [], _ :: _, _, _, hp, _ => by simp [passA] at hp
  | _ :: _, [], _, _, hp, _ => by simp [passA] at hp
  | [], [], [], _ :: _, _, h => h.elim
  | [], [], _ :: _, _, _, h => h.elim
  | _ :: _, _ :: _, [], _, _, h => h.elim
  | _ :: _, _ :: _, _ :: _, [], _, h => h.elim
/-- behind a call -/
theorem ResC.back {k : RK} {v : V} {d : D} (f : Frm K κ g env σ H) (hk : k = .fz ∨ k = .nw) (kp : ∀ b o, H b = some o → ¬ g.P b → H' b = some o) (pl : ∀ b, g.P b → Pool H' b) (r : ResC K k H H' g.own v d) :
    ∃ g', Frm K κ g' env σ H' ∧ EStep [] g g' H H' ∧ Res K g' k H H' v d := by
  rcases hk with rfl | rfl
  · refine ⟨g, f.next kp pl rfl rfl rfl (fun a p => (f.pl a p).1) f.il fun a q => .inl q, ⟨rfl, rfl, rfl, fun _ q => q, fun _ q => .inl q, fun b o e p _ => kp b o e p, fun b p _ => pl b p⟩, r⟩
  · obtain ⟨p, rfl, n, r⟩ := r
    have F2 : Frm K κ (g.add p) env σ H' := f.next kp pl rfl rfl rfl (fun a p => .inl (f.pl a p).1) (fun a p => .inl (f.il a p)) fun a q => q.imp id fun e => by subst e; exact ⟨n, r.tk⟩
    refine ⟨g.add p, F2, ⟨rfl, rfl, rfl, fun _ q => .inl q, fun a q => q.imp id fun e => by subst e; exact n, fun b o e p _ => kp b o e p, fun b p _ => pl b p⟩, p, rfl, n, .inr rfl, fun q => f.own_ne (f.p_own q) n, ?_⟩
    exact r.keep (fun _ q => q) (fun _ _ _ q => q) fun a q => .inl (Rg.add_own.mp q)
end
section
variable {X : Cx} {κ : List SK} {M : List Nat} {k : RK} {pos : Pos}
theorem se_call {lv : Nat} {f : Addr} {fd : FuncData} {ps : List Str} {ms : List PM} {S : FS} {x : Str} {p : Pos} {e : Expr} {es : List Expr} {ks : List RK} {wl : WA} (F : FnOk X.prog X.w X.K X.mg X.base CX0 lv f fd ps (spOf X.K ms k S)) (hr : Room lv X.A) (hg : Gl X x) (hm : X.mg x = some (.ref f))
    (hk : PySem.W.keepIn X.K (.ref f) = true) (hb : Binds X.K fd ps []) (ha : SA X κ M ks (e :: es) wl) (hp : passA ks ms = true := by rfl) (kk : k = .fz ∨ k = .nw := by first | exact .inl rfl | exact .inr rfl) (hdb : (x == ("__debug__" : Str)) = false := by decide)
    (he : starEach (e :: es) X.env = (false, eval e X.env) :: starEach es X.env := by rfl) (hpl : (backTo pos (starEach es X.env)).any (·.1) = false := by rfl) : SE X κ M k (.Call (.Name x p) (e :: es) [] pos) (wCall S wl) :=
  SE.of (pe_call (E := E0) F hr hg hm hk hb .nil pass0 ha hdb he hpl) fun σ H Q ⟨g, env, W, Fr0, hw, post⟩ => ⟨g, env, _, Fr0, hw, fun vs H1 g1 e1 ds F1 s1 r1 w1 => by
    show spOf X.K ms k S (vs ++ []) H1 Q E0
    rw [List.append_nil]
    refine ⟨g1.own, g1.P, ds, _, fun a q => F1.own_tk q, fun a q => ⟨F1.p_own q, (F1.pl a q).2⟩, r1.args F1 hp, w1, fun v H2 d wd kp pl rc => ?_⟩
    obtain ⟨g2, F2, s2, r2⟩ := ResC.back F1 kk kp pl rc
    exact post v H2 g2 e1 d F2 (s1.tr (s2.mono fun _ q => nomatch q) Fr0 F1) (r2.back fun p q => s1.there Fr0 F1 q) wd⟩
theorem se_call0 {lv : Nat} {f : Addr} {fd : FuncData} {ps : List Str} {S : FS} {x : Str} {p : Pos} (F : FnOk X.prog X.w X.K X.mg X.base CX0 lv f fd ps (spOf X.K [] k S)) (hr : Room lv X.A) (hg : Gl X x) (hm : X.mg x = some (.ref f))
    (hk : PySem.W.keepIn X.K (.ref f) = true) (hb : Binds X.K fd ps []) (kk : k = .fz ∨ k = .nw := by first | exact .inl rfl | exact .inr rfl) (hdb : (x == ("__debug__" : Str)) = false := by decide) : SE X κ M k (.Call (.Name x p) [] [] pos) (wCall S waNil) :=
  SE.of (pe_call0 (E := E0) F hr hg hm hk hb .nil pass0 hdb) fun σ H Q ⟨g, env, W, Fr0, hw, post⟩ => by
    refine ⟨g.own, g.P, [], _, fun a q => Fr0.own_tk q, fun a q => ⟨Fr0.p_own q, (Fr0.pl a q).2⟩, trivial, hw, fun v H2 d wd kp pl rc => ?_⟩
    obtain ⟨g2, F2, s2, r2⟩ := ResC.back Fr0 kk kp pl rc
    exact post v H2 g2 env d F2 (s2.mono fun _ q => nomatch q) r2 wd
theorem se_blt {id : String} {r : List V → Hp → VK → Prop} {f : List D → Option D} {x : Str} {p : Pos} {e : Expr} {es : List Expr} {ks : List RK} {wl : WA} (hc : CallR X (.builtin id) r) (hf : BlD X.K r f k) (hg : Gl X x) (hm : X.mg x = none) (hv : bootBuiltins x = some (.builtin id)) (ha : SA X κ M ks (e :: es) wl)
    (hk : ks.all RK.rdable = true := by rfl) (hn : x ≠ "__name__" := by decide) (hdb : (x == ("__debug__" : Str)) = false := by decide)
    (he : starEach (e :: es) X.env = (false, eval e X.env) :: starEach es X.env := by rfl) (hpl : (backTo pos (starEach es X.env)).any (·.1) = false := by rfl) : SE X κ M k (.Call (.Name x p) (e :: es) [] pos) (wBlt f wl) :=
  se_tCB (pe_callB hc hg hm hv ha hn hdb he hpl) hf hk
theorem se_bty {T : String} {r : List V → Hp → VK → Prop} {f : List D → Option D} {x : Str} {p : Pos} {e : Expr} {es : List Expr} {ks : List RK} {wl : WA} (hc : CallR X (.type T) r) (hf : BlD X.K r f k) (hg : Gl X x) (hm : X.mg x = none) (hv : bootBuiltins x = some (.type T)) (ha : SA X κ M ks (e :: es) wl)
    (hk : ks.all RK.rdable = true := by rfl) (hn : x ≠ "__name__" := by decide) (hdb : (x == ("__debug__" : Str)) = false := by decide)
    (he : starEach (e :: es) X.env = (false, eval e X.env) :: starEach es X.env := by rfl) (hpl : (backTo pos (starEach es X.env)).any (·.1) = false := by rfl) : SE X κ M k (.Call (.Name x p) (e :: es) [] pos) (wBlt f wl) :=
  se_tCB (pe_callTy hc hg hm hv ha hn hdb he hpl) hf hk
end

/-! tests, and, or, not -/
section
variable {X : Cx} {κ : List SK} {M : List Nat} {a b c : Expr} {w wa wb : WE} {ka kb k : RK} {pos : Pos} {rest : List Expr} {s t : WT}
theorem ResBl {K : PySem.W.Frag} {g : Rg} {k : RK} {H0 H : Hp} {v : V} {b : Bool} (hk : k.rdable = true) (r : Res K g k H0 H v (.bool b)) : v = .bl b := by
  rcases r.rdb hk with q | ⟨a, e, q⟩
  · exact q.toBl
  · cases q
theorem st_tB {te : TE} {c : Expr} (h : PT X c (L2.tB te)) (i : ∀ σ H Q, cE X.K κ M .fz w σ H Q → te σ H Q) : ST X κ M c (tVal w) :=
  ST.of h fun σ H Q ⟨g, env, W, F, hw, post⟩ => i σ H _ ⟨g, env, _, F, hw, fun v H' g' env' d F' s r ⟨b, e, wb⟩ => by
    subst e
    exact ⟨b, r.toBl, post b H' g' env' F' s wb⟩⟩
theorem st_val (h : SE X κ M .fz a w) (he : ∀ whole, isTrue a X.env whole = (do let v ← whole; standAt a.pos; holding [v] (truthy v)) := by intro _; rfl) : ST X κ M a (tVal w) :=
  st_tB (pt_val h he) fun _ _ _ q => q
theorem st_cmp {op : CmpOp} {r : R2} {f : D → D → Option D} (ho : OpR X (compareOp op) r) (hf : OpD X.K r f .fz) (ha : SE X κ M ka a wa) (hb : SE X κ M kb b wb) (hm : behindInMarks op b = false) (hs : stable ka M = true := by rfl) (pa : ka.rdable = true := by rfl) (pb : kb.rdable = true := by rfl) :
    ST X κ M (.Compare a [op] [b] pos) (tVal (wOp2 f wa wb)) :=
  ST.of (pt_cmpR ho ha hb hm) fun σ H Q ⟨g, env, W, F, hw, post⟩ => ⟨g, env, _, F, hw, fun x H1 g1 e1 d1 F1 s1 r1 w1 => ⟨g1, e1, _, F1, w1, fun y H2 g2 e2 d2 F2 s2 r2 w2 => by
    obtain ⟨z, ez, bb, eb, wz⟩ := w2
    subst eb
    refine hf κ g2 e2 σ H2 x y d1 d2 _ _ F2 ((r1.step s2 F1 hs).rdb pa) (r2.rdb pb) ez fun v H3 g3 F3 s3 r3 => ?_
    have s12 := s1.tr s2 F F1
    exact ⟨bb, r3.toBl, post bb H3 g3 e2 F3 (s12.tr (s3.mono fun _ q => nomatch q) F F2) wz⟩⟩⟩
theorem st_not (h : ST X κ M a s) : ST X κ M (.UnaryOp .Not a pos) (tNot s) :=
  ST.of (pt_not h) fun σ H Q ⟨g, env, W, F, hw, post⟩ => ⟨g, env, _, F, hw, fun b H' g' env' F' s' w' => post (!b) H' g' env' F' s' w'⟩
def SW (X : Cx) (κ : List SK) (M : List Nat) (e : Expr) (w : WT) : Prop := PW X e (cT X.K κ M w)
theorem SW.of {c : Expr} {wt : WT} {t : TT} (h : PW X c t) (s : ∀ σ H Q, cT X.K κ M wt σ H Q → t σ H Q) : SW X κ M c wt := ⟨fun wh pins s0 σ H Q I q => h.run wh pins s0 σ H Q I (s σ H Q q)⟩
theorem SW.st (h : SW X κ M c s) : ST X κ M c s := ⟨h.run _⟩
theorem sw_and1 (h : ST X κ M a s) : SW X κ M (.BoolOp .And [a] pos) s := pw_and1 h
theorem sw_or1 (h : ST X κ M a s) : SW X κ M (.BoolOp .Or [a] pos) s := pw_or1 h
theorem sw_and (ha : ST X κ M a s) (hb : SW X κ M (.BoolOp .And (b :: rest) pos) t) : SW X κ M (.BoolOp .And (a :: b :: rest) pos) (tAnd s t) :=
  SW.of (pw_and ha hb) fun σ H Q ⟨g, env, W, F, hw, post⟩ => ⟨g, env, _, F, hw, fun b H' g' env' F' s' w' => by
    cases b with
    | true => exact ⟨g', env', _, F', w', fun b2 H2 g2 e2 F2 s2 w2 => post b2 H2 g2 e2 F2 (s'.tr s2 F F') w2⟩
    | false => exact post false H' g' env' F' s' w'⟩
theorem sw_or (ha : ST X κ M a s) (hb : SW X κ M (.BoolOp .Or (b :: rest) pos) t) : SW X κ M (.BoolOp .Or (a :: b :: rest) pos) (tOr s t) :=
  SW.of (pw_or ha hb) fun σ H Q ⟨g, env, W, F, hw, post⟩ => ⟨g, env, _, F, hw, fun b H' g' env' F' s' w' => by
    cases b with
    | false => exact ⟨g', env', _, F', w', fun b2 H2 g2 e2 F2 s2 w2 => post b2 H2 g2 e2 F2 (s'.tr s2 F F') w2⟩
    | true => exact post true H' g' env' F' s' w'⟩
theorem se_one {op} (h : SE X κ M k a w) : SE X κ M k (.BoolOp op [a] pos) w := pe_one h
theorem se_and (ha : SE X κ M .fz a wa) (hb : SE X κ M .fz (.BoolOp .And (b :: rest) pos) wb) : SE X κ M .fz (.BoolOp .And (a :: b :: rest) pos) (wAnd wa wb) :=
  SE.of (pe_and ha hb) fun σ H Q ⟨g, env, W, F, hw, post⟩ => ⟨g, env, _, F, hw, fun x H' g' env' d F' s' r ⟨c, e, w'⟩ => by
    subst e
    refine ⟨c, r.toBl, ?_⟩
    cases c with
    | true => exact ⟨g', env', _, F', w', fun v H2 g2 e2 d2 F2 s2 r2 w2 => post v H2 g2 e2 d2 F2 (s'.tr s2 F F') r2 w2⟩
    | false => exact post (.bl false) H' g' env' _ F' s' (.bl false) w'⟩
theorem se_or (ha : SE X κ M .fz a wa) (hb : SE X κ M .fz (.BoolOp .Or (b :: rest) pos) wb) : SE X κ M .fz (.BoolOp .Or (a :: b :: rest) pos) (wOr wa wb) :=
  SE.of (pe_or ha hb) fun σ H Q ⟨g, env, W, F, hw, post⟩ => ⟨g, env, _, F, hw, fun x H' g' env' d F' s' r ⟨c, e, w'⟩ => by
    subst e
    refine ⟨c, r.toBl, ?_⟩
    cases c with
    | false => exact ⟨g', env', _, F', w', fun v H2 g2 e2 d2 F2 s2 r2 w2 => post v H2 g2 e2 d2 F2 (s'.tr s2 F F') r2 w2⟩
    | true => exact post (.bl true) H' g' env' _ F' s' (.bl true) w'⟩
theorem se_not (ha : SE X κ M .fz a wa) : SE X κ M .fz (.UnaryOp .Not a pos) (wNot wa) :=
  SE.of (pe_not ha) fun σ H Q ⟨g, env, W, F, hw, post⟩ => ⟨g, env, _, F, hw, fun x H' g' env' d F' s' r ⟨c, e, w'⟩ => by
    subst e
    exact ⟨c, r.toBl, post (.bl (!c)) H' g' env' _ F' s' (.bl _) w'⟩⟩
theorem se_ifE {c : Expr} (hc : ST X κ M c s) (ha : SE X κ M k a wa) (hb : SE X κ M k b wb) : SE X κ M k (.IfExp c a b pos) (wIfE s wa wb) :=
  SE.of (pe_ifExp hc ha hb) fun σ H Q ⟨g, env, W, F, hw, post⟩ => ⟨g, env, _, F, hw, fun x H' g' env' F' s' w' => by
    cases x with
    | true => exact ⟨g', env', _, F', w', fun v H2 g2 e2 d2 F2 s2 r2 w2 => post v H2 g2 e2 d2 F2 (s'.tr s2 F F') (r2.back fun p q => s'.there F F' q) w2⟩
    | false => exact ⟨g', env', _, F', w', fun v H2 g2 e2 d2 F2 s2 r2 w2 => post v H2 g2 e2 d2 F2 (s'.tr s2 F F') (r2.back fun p q => s'.there F F' q) w2⟩⟩
theorem chain_go {r r' : R2} {f f' : D → D → Option D} {wc : WE} {kc : RK} (hf : OpD X.K r f .fz) (hf' : OpD X.K r' f' .fz) (ma : stable ka M = true) (mb : stable kb M = true) (pa : ka.rdable = true) (pb : kb.rdable = true) (pc : kc.rdable = true) (σ : St) (H : Hp) (Q : VK)
    (h : cE X.K κ M .fz (wChain f f' wa wb wc) σ H Q) : tChain r r' (cE X.K κ M ka wa) (cE X.K κ M kb wb) (cE X.K κ M kc wc) σ H Q := by
  obtain ⟨g, env, W, F, hw, post⟩ := h
  refine ⟨g, env, _, F, hw, fun x H1 g1 e1 d1 F1 s1 r1 w1 => ⟨g1, e1, _, F1, w1, fun y H2 g2 e2 d2 F2 s2 r2 w2 => ?_⟩⟩
  obtain ⟨kk, ek, w2⟩ := w2
  have s12 := s1.tr s2 F F1
  refine hf κ g2 e2 σ H2 x y d1 d2 _ _ F2 ((r1.step s2 F1 ma).rdb pa) (r2.rdb pb) ek fun v H3 g3 F3 s3 r3 => ⟨kk, r3.toBl, ?_⟩
  have s3' : EStep M g2 g3 H2 H3 := s3.mono fun _ q => nomatch q
  have s123 := s12.tr s3' F F2
  cases kk with
  | false => exact post _ H3 g3 e2 _ F3 s123 (.bl false) w2
  | true =>
    refine ⟨g3, e2, _, F3, w2, fun z H4 g4 e4 d4 F4 s4 r4 w4 => ?_⟩
    obtain ⟨rr, er, w4⟩ := w4
    refine hf' κ g4 e4 σ H4 y z d2 d4 rr Q F4 (((r2.step s3' F2 mb).step s4 F3 mb).rdb pb) (r4.rdb pc) er fun u H5 g5 F5 s5 r5 => ?_
    exact post u H5 g5 e4 rr F5 ((s123.tr s4 F F3).tr (s5.mono fun _ q => nomatch q) F F4) r5 w4
theorem se_chain {op op' : CmpOp} {r r' : R2} {f f' : D → D → Option D} {wc : WE} {kc : RK} (ho : OpR X (compareOp op) r) (hf : OpD X.K r f .fz) (ho' : OpR X (compareOp op') r') (hf' : OpD X.K r' f' .fz) (ha : SE X κ M ka a wa) (hb : SE X κ M kb b wb) (hc : SE X κ M kc c wc)
    (hm : lastMarks [op, op'] [b, c] = false := by with_unfolding_all rfl) (ma : stable ka M = true := by rfl) (mb : stable kb M = true := by rfl) (pa : ka.rdable = true := by rfl) (pb : kb.rdable = true := by rfl) (pc : kc.rdable = true := by rfl) : SE X κ M .fz (.Compare a [op, op'] [b, c] pos) (wChain f f' wa wb wc) :=
  SE.of (pe_chain ho ho' ha hb hc hm) (chain_go hf hf' ma mb pa pb pc)
theorem st_chain {op op' : CmpOp} {r r' : R2} {f f' : D → D → Option D} {wc : WE} {kc : RK} (ho : OpR X (compareOp op) r) (hf : OpD X.K r f .fz) (ho' : OpR X (compareOp op') r') (hf' : OpD X.K r' f' .fz) (ha : SE X κ M ka a wa) (hb : SE X κ M kb b wb) (hc : SE X κ M kc c wc)
    (hm : lastMarks [op, op'] [b, c] = false := by with_unfolding_all rfl) (ma : stable ka M = true := by rfl) (mb : stable kb M = true := by rfl) (pa : ka.rdable = true := by rfl) (pb : kb.rdable = true := by rfl) (pc : kc.rdable = true := by rfl) : ST X κ M (.Compare a [op, op'] [b, c] pos) (tVal (wChain f f' wa wb wc)) :=
  ST.of (pt_chain ho ho' ha hb hc hm) fun σ H Q ⟨g, env, W, F, hw, post⟩ => chain_go hf hf' ma mb pa pb pc σ H _ ⟨g, env, _, F, hw, fun v H' g' env' d F' s r ⟨b, e, wb⟩ => by
    subst e
    exact ⟨b, r.toBl, post b H' g' env' F' s wb⟩⟩
end
end G7

set_option maxRecDepth 100000
/-! statements -/
namespace G7
open PySem PySem.Spec PyProof.Rows L2

def baseO (κ : List SK) (g : Rg) (a : Addr) : Prop := g.O a ∨ ∃ i, kindOf κ i = .q ∧ g.al i = some a
structure SStep (κ : List SK) (M : List Nat) (g g' : Rg) (H H' : Hp) : Prop where
  pu : ∀ a, g.P a → g'.P a
  pd : ∀ a, g'.P a → g.P a ∨ H a = none
  up : ∀ a, g.O a → g'.O a
  dn : ∀ a, g'.O a → g.O a ∨ H a = none
  al : ∀ i a, g'.al i = some a → g.al i = some a ∨ H a = none
  I : g'.I = g.I
  qs : ∀ i, kindOf κ i = .q → g'.al i = g.al i
  keep : ∀ b o, H b = some o → ¬ g.P b → (∀ i ∈ M, g.al i ≠ some b) → H' b = some o
  th : ∀ b, H b ≠ none → H' b ≠ none
  pool : ∀ b, g.P b → Pool H' b
def ResR (K : PySem.W.Frag) (κ : List SK) (k : RK) (g : Rg) (H H' : Hp) (v : V) (d : D) : Prop := match k with
  | .nw => ∃ p, v = .ref p ∧ (H p = none ∨ ∃ i, (kindOf κ i = .o ∨ kindOf κ i = .f) ∧ g.al i = some p) ∧ Obj1 K H' (fun a => baseO κ g a ∨ a = p) p d
  | _ => Rep K H' (baseO κ g) v d
def cS (K : PySem.W.Frag) (κ : List SK) (M : List Nat) (k : RK) (w : WS) : TS := fun D σ H => ∃ g env W, Frm K κ g env σ H ∧ w W env ∧
  (∀ g' env' σ' H', Frm K κ g' env' σ' H' → SStep κ M g g' H H' → W.nx env' → D.nx σ' H') ∧
  (∀ g' env' σ' H', Frm K κ g' env' σ' H' → SStep κ M g g' H H' → W.bk env' → D.bk σ' H') ∧
  (∀ g' env' σ' H', Frm K κ g' env' σ' H' → SStep κ M g g' H H' → W.ct env' → D.ct σ' H') ∧
  (∀ g' env' σ' H' v d, Frm K κ g' env' σ' H' → SStep κ M g g' H H' → ResR K κ k g H H' v d → W.rt d env' → D.rt v H')
def SS (X : Cx) (κ : List SK) (M : List Nat) (k : RK) (st : Stmt) (w : WS) : Prop := PS X st (cS X.K κ M k w)
def SSs (X : Cx) (κ : List SK) (M : List Nat) (k : RK) (st : List Stmt) (w : WS) : Prop := PSs X st (cS X.K κ M k w)

section
variable {K : PySem.W.Frag} {κ : List SK} {g g' g2 : Rg} {env env' env2 : En} {σ σ' σ2 : St} {H H' H2 : Hp} {M M' : List Nat} {v : V} {d : D} {k : RK}
theorem SStep.refl (f : Frm K κ g env σ H) : SStep κ M g g H H := ⟨fun _ h => h, fun _ h => .inl h, fun _ h => h, fun _ h => .inl h, fun _ _ h => .inl h, rfl, fun _ _ => rfl, fun _ _ h _ _ => h, fun _ h => h, fun b p => (f.pl b p).2⟩
theorem SStep.trans (h : SStep κ M g g' H H') (h2 : SStep κ M g' g2 H' H2) : SStep κ M g g2 H H2 := by
  have bk : ∀ a, H' a = none → H a = none := fun a e => by
    cases q : H a with
    | none => rfl
    | some o => exact absurd e (h.th a (by rw [q]; simp))
  refine ⟨fun a p => h2.pu a (h.pu a p), fun a p => (h2.pd a p).elim (h.pd a) fun e => .inr (bk a e), fun a p => h2.up a (h.up a p), fun a p => (h2.dn a p).elim (h.dn a) fun e => .inr (bk a e),
    fun i a p => (h2.al i a p).elim (h.al i a) fun e => .inr (bk a e), h2.I.trans h.I, fun i q => (h2.qs i q).trans (h.qs i q), fun b o e p q => ?_, fun b e => h2.th b (h.th b e), fun b p => h2.pool b (h.pu b p)⟩
  refine h2.keep b o (h.keep b o e p q) (fun z => (h.pd b z).elim p fun n => by rw [e] at n; cases n) fun i hi z => ?_
  rcases h.al i b z with n | n
  · exact q i hi n
  · rw [e] at n; cases n
theorem SStep.mono (h : SStep κ M g g' H H') (s : ∀ i ∈ M, i ∈ M') : SStep κ M' g g' H H' := ⟨h.pu, h.pd, h.up, h.dn, h.al, h.I, h.qs, fun b o e p q => h.keep b o e p fun i hi => q i (s i hi), h.th, h.pool⟩
theorem EStep.toS (h : EStep M g g' H H') (f : Frm K κ g env σ H) (f' : Frm K κ g' env' σ' H') : SStep κ M g g' H H' := by
  refine ⟨fun a p => by rw [h.P]; exact p, fun a p => by rw [h.P] at p; exact .inl p, h.up, h.dn, fun i a e => by rw [h.al] at e; exact .inl e, h.I, fun i _ => by rw [h.al], h.keep, fun b n e => ?_, fun b p => h.pool b p (f.pl b p).2⟩
  have : ∀ {σ1 : St}, Frm K κ g env σ1 H → True := fun _ => trivial
  cases q : H b with
  | none => exact n q
  | some o =>
    by_cases hp : g.P b
    · obtain ⟨x, y, z, r⟩ := h.pool b hp (f.pl b hp).2
      rw [r] at e; cases e
    · by_cases hm : ∀ i ∈ M, g.al i ≠ some b
      · rw [h.keep b o q hp hm] at e; cases e
      · have : ∃ i, i ∈ M ∧ g.al i = some b := by
          apply Classical.byContradiction
          intro c
          exact hm fun i hi z => c ⟨i, hi, z⟩
        obtain ⟨i, hi, z⟩ := this
        exact absurd e (f'.alo i b (by rw [h.al]; exact z)).2
theorem SStep.base (h : SStep κ M g g' H H') : ∀ a, baseO κ g a → baseO κ g' a := fun a q => by
  rcases q with q | ⟨i, hk, q⟩
  · exact .inl (h.up a q)
  · exact .inr ⟨i, hk, by rw [h.qs i hk]; exact q⟩
theorem baseO_own {a : Addr} (h : baseO κ g a) : g.own a := h.imp id fun ⟨i, _, e⟩ => ⟨i, e⟩
/-- an answer behind a step is one ahead of it -/
theorem ResR.back (h : SStep κ M g g' H H') (r : ResR K κ k g' H' H2 v d) : ResR K κ k g H H2 v d := by
  have less : ∀ {v d}, Rep K H2 (baseO κ g') v d → Rep K H2 (baseO κ g) v d := fun r => r.keep (fun _ _ _ q => q) fun a q => .inl (h.base a q)
  cases k with
  | fz => exact less r
  | rd => exact less r
  | ow i => exact less r
  | pl => exact less r
  | np => exact less r
  | nw =>
    obtain ⟨p, rfl, n, r⟩ := r
    refine ⟨p, rfl, ?_, r.keep (fun _ q => q) (fun _ _ _ q => q) fun a q => .inl (q.imp (h.base a) id)⟩
    rcases n with n | ⟨i, hk, e⟩
    · left
      cases q : H p with
      | none => rfl
      | some o => exact absurd n (h.th p (by rw [q]; simp))
    · rcases h.al i p e with z | z
      · exact .inr ⟨i, hk, z⟩
      · exact .inl z
end
section
variable {X : Cx} {κ : List SK} {M Me : List Nat} {k ke : RK} {st : Stmt} {sts : List Stmt} {e : Expr} {w wa : WE} {s t : WS} {pos : Pos}
theorem SS.of {t' : TS} (h : PS X st t') (i : ∀ D σ H, cS X.K κ M k s D σ H → t' D σ H) : SS X κ M k st s := ⟨fun pins s0 σ H D I q => h.run pins s0 σ H D I (i D σ H q)⟩
theorem SSs.of {t' : TS} (h : PSs X sts t') (i : ∀ D σ H, cS X.K κ M k s D σ H → t' D σ H) : SSs X κ M k sts s := ⟨fun pins s0 σ H D I q => h.run pins s0 σ H D I (i D σ H q)⟩
theorem SSs.imp {s' : WS} (h : SSs X κ M k sts s) (i : ∀ W en, s' W en → s W en) : SSs X κ M k sts s' := SSs.of h fun D σ H ⟨g, env, W, F, hw, r⟩ => ⟨g, env, W, F, i _ _ hw, r⟩
theorem SS.mono {M' : List Nat} (h : SS X κ M k st s) (m : ∀ i ∈ M, i ∈ M' := by decide) : SS X κ M' k st s := SS.of h fun D σ H ⟨g, env, W, F, hw, n, b, c, r⟩ =>
  ⟨g, env, W, F, hw, fun g' env' σ' H' F' s' => n g' env' σ' H' F' (s'.mono m), fun g' env' σ' H' F' s' => b g' env' σ' H' F' (s'.mono m), fun g' env' σ' H' F' s' => c g' env' σ' H' F' (s'.mono m), fun g' env' σ' H' v d F' s' => r g' env' σ' H' v d F' (s'.mono m)⟩
/-- what a statement does, going on behind a step -/
theorem cS.go {K : PySem.W.Frag} {g g1 : Rg} {env1 : En} {σ1 : St} {H H1 : Hp} {W1 : WD} (F1 : Frm K κ g1 env1 σ1 H1) (s1 : SStep κ M g g1 H H1) (hw : s W1 env1) {D' : Ends}
    (n : ∀ g' env' σ' H', Frm K κ g' env' σ' H' → SStep κ M g g' H H' → W1.nx env' → D'.nx σ' H') (b : ∀ g' env' σ' H', Frm K κ g' env' σ' H' → SStep κ M g g' H H' → W1.bk env' → D'.bk σ' H')
    (c : ∀ g' env' σ' H', Frm K κ g' env' σ' H' → SStep κ M g g' H H' → W1.ct env' → D'.ct σ' H') (r : ∀ g' env' σ' H' v d, Frm K κ g' env' σ' H' → SStep κ M g g' H H' → ResR K κ k g H H' v d → W1.rt d env' → D'.rt v H') : cS K κ M k s D' σ1 H1 :=
  ⟨g1, env1, W1, F1, hw, fun g' env' σ' H' F' s' => n g' env' σ' H' F' (s1.trans s'), fun g' env' σ' H' F' s' => b g' env' σ' H' F' (s1.trans s'), fun g' env' σ' H' F' s' => c g' env' σ' H' F' (s1.trans s'),
    fun g' env' σ' H' v d F' s' rr => r g' env' σ' H' v d F' (s1.trans s') (rr.back s1)⟩
theorem sss_nil : SSs X κ M k [] wNil := SSs.of pss_nil fun D σ H ⟨g, env, W, F, hw, n, _⟩ => n g env σ H F (.refl F) hw
theorem sss_cons (h1 : SS X κ M k st s) (h2 : SSs X κ M k sts t) : SSs X κ M k (st :: sts) (wSeq s t) :=
  SSs.of (pss_cons h1 h2) fun D σ H ⟨g, env, W, F, hw, n, b, c, r⟩ => ⟨g, env, _, F, hw, fun g' env' σ' H' F' s' w' => cS.go (K := X.K) (g := g) (H := H) (W1 := W) (D' := D) F' s' w' n b c r, b, c, r⟩
theorem sss_one (h1 : SS X κ M k st s) : SSs X κ M k [st] s := SSs.of (pss_one h1) fun _ _ _ q => q
theorem ss_never : SS X κ M k st wNever := SS.of ps_never fun D σ H ⟨g, env, W, F, hw, _⟩ => hw
theorem sss_never : SSs X κ M k sts wNever := SSs.of pss_never fun D σ H ⟨g, env, W, F, hw, _⟩ => hw
theorem ss_pass : SS X κ M k (.Pass pos) wNil := SS.of ps_pass fun D σ H ⟨g, env, W, F, hw, n, _⟩ => n g env σ H F (.refl F) hw
theorem ss_break : SS X κ M k (.Break pos) wBreak := SS.of ps_break fun D σ H ⟨g, env, W, F, hw, n, b, c, r⟩ => b g env σ H F (.refl F) hw
theorem ss_cont : SS X κ M k (.Continue pos) wCont := SS.of ps_continue fun D σ H ⟨g, env, W, F, hw, n, b, c, r⟩ => c g env σ H F (.refl F) hw
theorem ss_if {c : Expr} {a b : List Stmt} {wt : WT} (hc : ST X κ Me c wt) (ha : SSs X κ M k a s) (hb : SSs X κ M k b t) (sub : ∀ i ∈ Me, i ∈ M := by decide) : SS X κ M k (.If c a b pos) (wIf wt s t) :=
  SS.of (ps_if hc ha hb) fun D σ H ⟨g, env, W, F, hw, n, b, c, r⟩ => ⟨g, env, _, F, hw, fun x H1 g1 e1 F1 s1 w1 => by
    have s1' := (s1.mono sub).toS F F1
    cases x with
    | true => exact cS.go (K := X.K) (g := g) (H := H) (W1 := W) (D' := D) F1 s1' w1 n b c r
    | false => exact cS.go (K := X.K) (g := g) (H := H) (W1 := W) (D' := D) F1 s1' w1 n b c r⟩
theorem ss_expr (he : SE X κ Me ke e w) (hs : swapsWith e none pos.line X.env = pure false := by rfl) (sub : ∀ i ∈ Me, i ∈ M := by decide) : SS X κ M k (.Expr e pos) (wExpr w) :=
  SS.of (ps_expr he hs) fun D σ H ⟨g, env, W, F, hw, n, b, c, r⟩ => ⟨g, env, _, F, hw, fun v H1 g1 e1 d F1 s1 _ w1 => n g1 e1 σ H1 F1 ((s1.mono sub).toS F F1) w1⟩
/-! return -/
theorem ss_ret (he : SE X κ Me .fz e w) (sub : ∀ i ∈ Me, i ∈ M := by decide) : SS X κ M .fz (.Return (some e) pos) (wRet w) :=
  SS.of (ps_ret he) fun D σ H ⟨g, env, W, F, hw, n, b, c, r⟩ => ⟨g, env, _, F, hw, fun v H1 g1 e1 d F1 s1 r1 w1 => by
    have s1' := (s1.mono sub).toS F F1
    refine r g1 e1 σ H1 v d F1 s1' ?_ w1
    exact Rep.keep (fun _ _ _ q => q) (fun a q => .inl (baseO_own (s1'.base a q))) r1⟩
theorem ss_retw (he : SE X κ Me .nw e w) (sub : ∀ i ∈ Me, i ∈ M := by decide) : SS X κ M .nw (.Return (some e) pos) (wRet w) :=
  SS.of (ps_ret he) fun D σ H ⟨g, env, W, F, hw, n, b, c, r⟩ => ⟨g, env, _, F, hw, fun v H1 g1 e1 d F1 s1 ⟨p, e, np, hO, hP, r1⟩ w1 => by
    have s1' := (s1.mono sub).toS F F1
    refine r g1 e1 σ H1 v d F1 s1' ⟨p, e, .inl np, r1.keep (fun _ q => q) (fun _ _ _ q => q) fun a q => .inl ?_⟩ w1
    rcases q with q | q
    · exact baseO_own (s1'.base a q)
    · subst q; exact .inl hO⟩
theorem ss_retow {i : Nat} (he : SE X κ Me (.ow i) e w) (hk : kindOf κ i = .o) (sub : ∀ i ∈ Me, i ∈ M := by decide) : SS X κ M .nw (.Return (some e) pos) (wRet w) :=
  SS.of (ps_ret he) fun D σ H ⟨g, env, W, F, hw, n, b, c, r⟩ => ⟨g, env, _, F, hw, fun v H1 g1 e1 d F1 s1 ⟨p, e, ea, r1⟩ w1 => by
    have s1' := (s1.mono sub).toS F F1
    refine r g1 e1 σ H1 v d F1 s1' ⟨p, e, .inr ⟨i, .inl hk, by rw [← s1.al]; exact ea⟩, r1.keep (fun _ q => q) (fun _ _ _ q => q) fun a q => .inl ?_⟩ w1
    rcases q with q | q
    · exact baseO_own (s1'.base a q)
    · subst q; exact .inr ⟨i, ea⟩⟩
theorem ss_retof {i : Nat} (he : SE X κ Me (.ow i) e w) (hk : kindOf κ i = .o) (sub : ∀ i ∈ Me, i ∈ M := by decide) : SS X κ M .fz (.Return (some e) pos) (wRet w) :=
  SS.of (ps_ret he) fun D σ H ⟨g, env, W, F, hw, n, b, c, r⟩ => ⟨g, env, _, F, hw, fun v H1 g1 e1 d F1 s1 ⟨p, e, ea, r1⟩ w1 => by
    have s1' := (s1.mono sub).toS F F1
    subst e
    refine r g1 e1 σ H1 _ d F1 s1' ((r1.r.keep (S' := baseO κ g) (fun _ q => q) (fun _ _ _ q => q) fun a q => .inl (baseO_own (s1'.base a q))).rep fun q => ?_) w1
    rcases s1'.base p q with z | ⟨j, hj, z⟩
    · exact (F1.alo i p ea).1 z
    · have := F1.inj i j p ea z
      subst this
      rw [hk] at hj; cases hj⟩
theorem ss_retN : SS X κ M .fz (.Return none pos) wRetN := SS.of ps_retN fun D σ H ⟨g, env, W, F, hw, n, b, c, r⟩ => r g env σ H .non .none F (.refl F) .non hw
/-! stores to slots -/
theorem Frm.set {K : PySem.W.Frag} {g : Rg} {env : En} {σ : St} {H : Hp} (F : Frm K κ g env σ H) {i : Nat} {v : V} {d : D} (s : SlotK K g H (kindOf κ i) i v d) : Frm K κ g (env.set i (some d)) (σ.set i (some v)) H := by
  refine ⟨by simp [F.ln], by simp [F.sl], fun j d' e => ?_, F.inj, F.alo', F.ot', F.il, F.pl⟩
  by_cases hj : i = j
  · subst hj
    have hi : i < env.length := by
      apply Classical.byContradiction
      intro c
      rw [List.getElem?_eq_none (by simpa using c)] at e; cases e
    rw [List.getElem?_set_self hi] at e
    cases e
    exact ⟨v, by rw [List.getElem?_set_self (by rw [F.sl, ← F.ln]; exact hi)], s⟩
  · rw [List.getElem?_set_ne hj] at e
    obtain ⟨v', e1, s'⟩ := F.ev j d' e
    exact ⟨v', by rw [List.getElem?_set_ne hj]; exact e1, s'⟩
theorem ss_tAsg {i : Nat} (h : PS X st (tAsg (cE X.K κ Me .fz w) (gName i))) (hk : kindOf κ i = .v) (sub : ∀ i ∈ Me, i ∈ M) : SS X κ M k st (wAsg i w) :=
  SS.of h fun D σ H ⟨g, env, W, F, hw, n, b, c, r⟩ => ⟨g, env, _, F, hw, fun v H1 g1 e1 d F1 s1 r1 w1 =>
    n g1 _ _ H1 (F1.set (by rw [hk]; exact r1)) ((s1.mono sub).toS F F1) w1⟩
/-- a new thing becomes a slot's own -/
theorem Frm.take {K : PySem.W.Frag} {g g1 : Rg} {env env1 : En} {σ : St} {H H1 : Hp} {i : Nat} {p : Addr} {d : D} (F : Frm K κ g env σ H) (F1 : Frm K κ g1 env1 σ H1) (s : EStep Me g g1 H H1) (sub : ∀ i ∈ Me, i ∈ M) (hi : i ∈ M) (hk : kindOf κ i = .o ∨ kindOf κ i = .f) (n : H p = none) (hO : g1.O p) (hP : ¬ g1.P p) (r : Obj1 K H1 g1.own p d) :
    ∃ g', Frm K κ g' (env1.set i (some d)) (σ.set i (some (.ref p))) H1 ∧ SStep κ M g g' H H1 := by
  have s1 := (s.mono sub).toS F F1
  have npal : ∀ j, g1.al j ≠ some p := fun j e => (F1.alo j p e).1 hO
  have nO : ¬ g.O p := fun q => F.ot p q n
  have own : ∀ a, Rg.own ⟨g.O, g1.P, g1.I, fun j => if j = i then some p else g1.al j⟩ a → g1.own a := fun a q => by
    rcases q with q | ⟨j, q⟩
    · exact .inl (s.up a q)
    · simp only at q
      split at q
      · cases q; exact .inl hO
      · exact .inr ⟨j, q⟩
  refine ⟨⟨g.O, g1.P, g1.I, fun j => if j = i then some p else g1.al j⟩, ⟨by simp [F1.ln], by simp [F1.sl], fun j d' e => ?_, fun j j' a e e' => ?_, fun j a e => ?_, fun a q => F1.ot' a (s.up a q), fun a q => F.il a (by rw [← s.I]; exact q), fun a q => ?_⟩, ⟨s1.pu, s1.pd, fun _ q => q, fun _ q => .inl q, fun j a e => ?_, s1.I, fun j q => ?_, s1.keep, s1.th, s1.pool⟩⟩
  · by_cases hj : i = j
    · subst hj
      have hl : i < env1.length := by
        apply Classical.byContradiction
        intro c
        rw [List.getElem?_eq_none (by simpa using c)] at e; cases e
      rw [List.getElem?_set_self hl] at e
      cases e
      have so : ∃ a, V.ref p = .ref a ∧ (if i = i then some p else g1.al i) = some a ∧ Obj1 K H1 (Rg.own ⟨g.O, g1.P, g1.I, fun j => if j = i then some p else g1.al j⟩) a d := ⟨p, rfl, by simp, r.keep (fun _ q => q) (fun _ _ _ q => q) fun a q => .inl (own a q)⟩
      refine ⟨.ref p, by rw [List.getElem?_set_self (by rw [F1.sl, ← F1.ln]; exact hl)], ?_⟩
      rcases hk with hk | hk <;> rw [hk]
      · exact so
      · exact .inl so
    · rw [List.getElem?_set_ne hj] at e
      obtain ⟨v', e1, s'⟩ := F1.ev j d' e
      refine ⟨v', by rw [List.getElem?_set_ne hj]; exact e1, ?_⟩
      have hj' : j ≠ i := fun z => hj z.symm
      cases hkj : kindOf κ j <;> rw [hkj] at s' <;> unfold SlotK at s' ⊢ <;> simp only at s' ⊢
      · exact Rep.keep (fun _ _ _ q => q) (fun a q => .inl (own a q)) s'
      · rcases s' with s' | ⟨a, rfl, np, na, s'⟩
        · exact .inl (Rep.keep (fun _ _ _ q => q) (fun a q => .inl (own a q)) s')
        · exact .inr ⟨a, rfl, np, na, s'.keep (fun _ q => q) (fun _ _ _ q => q) fun a q => .inl (own a q)⟩
      · obtain ⟨a, rfl, ea, s'⟩ := s'
        exact ⟨a, rfl, by simp [hj', ea], s'.keep (fun _ q => q) (fun _ _ _ q => q) fun a q => .inl (own a q)⟩
      · obtain ⟨a, rfl, ea, s'⟩ := s'
        exact ⟨a, rfl, by simp [hj', ea], s'.keep (fun _ q => q) (fun _ _ _ q => q) fun a q => .inl (own a q)⟩
      · exact s'
      · rcases s' with ⟨a, rfl, ea, s'⟩ | ⟨d', e', s'⟩
        · exact .inl ⟨a, rfl, by simp [hj', ea], s'.keep (fun _ q => q) (fun _ _ _ q => q) fun a q => .inl (own a q)⟩
        · exact .inr ⟨d', e', Rep.keep (fun _ _ _ q => q) (fun a q => .inl (own a q)) s'⟩
  · simp only at e e'
    split at e <;> split at e'
    · rename_i h1 h2; rw [h1, h2]
    · cases e; exact absurd e' (npal j')
    · cases e'; exact absurd e (npal j)
    · exact F1.inj j j' a e e'
  · simp only at e
    split at e
    · cases e; exact ⟨nO, r.tk⟩
    · obtain ⟨h1, h2⟩ := F1.alo' j a e
      exact ⟨fun q => h1 (s.up a q), h2⟩
  · rw [show g1.P a = g.P a from by rw [s.P]] at q
    exact ⟨(F.pl a q).1, (F1.pl a (by rw [s.P]; exact q)).2⟩
  · simp only at e
    split at e
    · cases e; exact .inr n
    · rw [s.al] at e; exact .inl e
  · have hj : j ≠ i := fun z => by rcases hk with hk | hk <;> rw [z, hk] at q <;> cases q
    simp [hj, s.al]
end
end G7

set_option maxRecDepth 100000
/-! stores, own lists changed, while, a def by its body -/
namespace G7
open PySem PySem.Spec PyProof.Rows L2

section
variable {X : Cx} {κ : List SK} {M Me : List Nat} {k ke : RK} {st : Stmt} {sts : List Stmt} {e : Expr} {w wa : WE} {s t : WS} {pos : Pos}
theorem ss_tAsgO {i : Nat} (h : PS X st (tAsg (cE X.K κ Me .nw w) (gName i))) (hk : kindOf κ i = .o) (hi : i ∈ M) (sub : ∀ i ∈ Me, i ∈ M) : SS X κ M k st (wAsg i w) :=
  SS.of h fun D σ H ⟨g, env, W, F, hw, n, b, c, r⟩ => ⟨g, env, _, F, hw, fun v H1 g1 e1 d F1 s1 ⟨p, e, np, hO, hP, r1⟩ w1 => by
    subst e
    obtain ⟨g2, F2, s2⟩ := Frm.take F F1 s1 sub hi (.inl hk) np hO hP r1
    exact n g2 _ _ H1 F2 s2 w1⟩
theorem ss_tAsgF {i : Nat} (h : PS X st (tAsg (cE X.K κ Me .nw w) (gName i))) (hk : kindOf κ i = .f) (hi : i ∈ M) (sub : ∀ i ∈ Me, i ∈ M) : SS X κ M k st (wAsg i w) :=
  SS.of h fun D σ H ⟨g, env, W, F, hw, n, b, c, r⟩ => ⟨g, env, _, F, hw, fun v H1 g1 e1 d F1 s1 ⟨p, e, np, hO, hP, r1⟩ w1 => by
    subst e
    obtain ⟨g2, F2, s2⟩ := Frm.take F F1 s1 sub hi (.inr hk) np hO hP r1
    exact n g2 _ _ H1 F2 s2 w1⟩
/-- a new list of three ints becomes a pool -/
def wAsgP (i : Nat) (a : WE) : WS := fun W e => a e fun d e1 => ∃ x y z : Int, d = .list [.int x, .int y, .int z] ∧ W.nx (e1.set i (some .none))
theorem ss_tAsgP {i : Nat} (h : PS X st (tAsg (cE X.K κ Me .nw w) (gName i))) (hk : kindOf κ i = .p) (sub : ∀ i ∈ Me, i ∈ M) : SS X κ M k st (wAsgP i w) :=
  SS.of h fun D σ H ⟨g, env, W, F, hw, n, b, c, r⟩ => ⟨g, env, _, F, hw, fun v H1 g1 e1 d F1 s1 ⟨p, e, np, hO, hP, r1⟩ ⟨x, y, z, ed, w1⟩ => by
    subst e ed
    have st1 := (s1.mono sub).toS F F1
    cases r1 with
    | lst e zl al =>
      cases al with | cons r1 al => cases al with | cons r2 al => cases al with | cons r3 al => cases al with | nil =>
      have pl : Pool H1 p := ⟨x, y, z, by rw [e, r1.toInt, r2.toInt, r3.toInt]⟩
      have F2 : Frm X.K κ { g1 with P := fun a => g1.P a ∨ a = p } e1 σ H1 := by
        refine ⟨F1.ln, F1.sl, fun j d' ej => ?_, F1.inj, F1.alo', F1.ot', F1.il, fun a q => ?_⟩
        · obtain ⟨v', e1, s'⟩ := F1.ev j d' ej
          refine ⟨v', e1, ?_⟩
          cases hkj : kindOf κ j <;> rw [hkj] at s' <;> unfold SlotK at s' ⊢ <;> simp only at s' ⊢
          · exact s'
          · rcases s' with s' | ⟨a, rfl, np', na, s'⟩
            · exact .inl s'
            · refine .inr ⟨a, rfl, fun q => q.elim np' fun z => ?_, na, s'⟩
              subst z
              exact F.ot a (F.il a (by rw [← s1.I]; exact na)) np
          · exact s'
          · exact s'
          · obtain ⟨a, rfl, q, s'⟩ := s'; exact ⟨a, rfl, .inl q, s'⟩
          · exact s'
        · rcases q with q | q
          · exact F1.pl a q
          · subst q; exact ⟨hO, pl⟩
      refine n { g1 with P := fun a => g1.P a ∨ a = p } _ _ H1 (F2.set (by rw [hk]; exact ⟨p, rfl, .inr rfl, rfl⟩)) ⟨fun a q => .inl (st1.pu a q), fun a q => q.elim (st1.pd a) fun z => .inr (by rw [z]; exact np), st1.up, st1.dn, st1.al, st1.I, st1.qs, st1.keep, st1.th, st1.pool⟩ w1⟩
/-! targets -/
def Off (ts : List Nat) (σ σ' : St) : Prop := σ'.length = σ.length ∧ ∀ j, j ∉ ts → σ'[j]? = σ[j]?
def cG (K : PySem.W.Frag) (κ : List SK) (ts : List Nat) (f : WG) : TG := fun v σ H Q => ∃ g env d env', Frm K κ g env σ H ∧ Rep K H g.own v d ∧ f d env = some env' ∧ ∀ σ', Frm K κ g env' σ' H → Off ts σ σ' → Q σ' H
def SG (X : Cx) (κ : List SK) (ts : List Nat) (e : Expr) (f : WG) : Prop := PG X e (cG X.K κ ts f)
theorem SG.of {f : WG} {ts : List Nat} {t : TG} (h : PG X e t) (i : ∀ v σ H Q, cG X.K κ ts f v σ H Q → t v σ H Q) : SG X κ ts e f := ⟨fun pins s σ H v u Q I r q => h.run pins s σ H v u Q I r (i v σ H Q q)⟩
theorem sg_name {i : Nat} {x : Str} (h : PG X (.Name x pos) (gName i)) (hk : kindOf κ i = .v) : SG X κ [i] (.Name x pos) (gN i) :=
  SG.of h fun v σ H Q ⟨g, env, d, env', F, r, e, q⟩ => by
    cases e
    exact q _ (F.set (by rw [hk]; exact r)) ⟨by simp, fun j hj => by rw [List.getElem?_set_ne (fun z => hj (by simp [z]))]⟩
def cGs (K : PySem.W.Frag) (κ : List SK) (ts : List Nat) (fs : List WG) : TGs := fun vs σ H Q => ∃ g env ds env', Frm K κ g env σ H ∧ RepAll K H g.own vs ds ∧ gAll fs ds env = some env' ∧ ∀ σ', Frm K κ g env' σ' H → Off ts σ σ' → Q σ' H
def SGs (X : Cx) (κ : List SK) (ts : List Nat) (es : List Expr) (fs : List WG) : Prop := PGs X es (cGs X.K κ ts fs)
theorem SGs.of {es : List Expr} {ts : List Nat} {fs : List WG} {t : TGs} (h : PGs X es t) (i : ∀ v σ H Q, cGs X.K κ ts fs v σ H Q → t v σ H Q) : SGs X κ ts es fs := ⟨fun pins s σ H v u Q I r q => h.run pins s σ H v u Q I r (i v σ H Q q)⟩
theorem sgs_nil : SGs X κ [] [] [] := SGs.of pgs_nil fun vs σ H Q ⟨g, env, ds, env', F, r, e, q⟩ => by
  cases ds with
  | nil => cases r; simp [gAll] at e; subst e; exact ⟨rfl, q σ F ⟨rfl, fun _ _ => rfl⟩⟩
  | cons _ _ => simp [gAll] at e
theorem sgs_cons {es : List Expr} {ts us : List Nat} {f : WG} {fs : List WG} (h1 : SG X κ ts e f) (h2 : SGs X κ us es fs) (hs : (assignEach (e :: es) X.env).map (·.2) = assign e X.env :: (assignEach es X.env).map (·.2) := by rfl) : SGs X κ (ts ++ us) (e :: es) (f :: fs) :=
  SGs.of (pgs_cons h1 h2 hs) fun vs σ H Q ⟨g, env, ds, env', F, r, e, q⟩ => by
    cases ds with
    | nil => simp [gAll] at e
    | cons d ds =>
      cases r with
      | cons r rs =>
        simp only [gAll, Option.bind_eq_some_iff] at e
        obtain ⟨e1, h1, h2⟩ := e
        exact ⟨_, _, rfl, g, env, d, e1, F, r, h1, fun σ' F' o => ⟨g, e1, ds, env', F', rs, h2, fun σ2 F2 o2 => q σ2 F2 ⟨o2.1.trans o.1, fun j hj => (o2.2 j fun z => hj (List.mem_append_right _ z)).trans (o.2 j fun z => hj (List.mem_append_left _ z))⟩⟩⟩
theorem sg_tup {es : List Expr} {ts : List Nat} {fs : List WG} {j : Nat} (hc : X.calm = true) (h : SGs X κ ts es fs) (hn : (assignEach es X.env).length = fs.length := by rfl) (hst : (assignEach es X.env).findIdx? (·.1) = none := by rfl) : SG X κ ts (.Tuple es j pos) (gT fs) :=
  SG.of (pg_tup hc h hn hst) fun v σ H Q ⟨g, env, d, env', F, r, e, q⟩ => by
    cases d with
    | tuple ds =>
      obtain ⟨a, xs, rfl, ta, z, al⟩ := r.toTup
      refine ⟨a, xs, rfl, sqT_of ta, ?_, g, env, ds, env', F, al, e, q⟩
      have : ∀ (fs : List WG) (ds : List D) (env : En), gAll fs ds env = some env' → ds.length = fs.length := by
        intro fs
        induction fs with
        | nil => intro ds env h; cases ds with
          | nil => rfl
          | cons _ _ => simp [gAll] at h
        | cons f fs ih => intro ds env h; cases ds with
          | nil => simp [gAll] at h
          | cons d ds =>
            simp only [gAll, Option.bind_eq_some_iff] at h
            obtain ⟨e1, _, h2⟩ := h
            simp [ih ds e1 h2]
      rw [al.length]
      exact this fs ds env e
    | _ => simp [gT] at e
theorem ss_asgG {tg : Expr} {f : WG} {ts : List Nat} (he : SE X κ Me .fz e w) (hg : SG X κ ts tg f) (hs : swapsWithSole [tg] e pos.line X.env = pure false := by rfl) (hw : swappedStores [tg] e X.env = pure none := by rfl)
    (h1 : (assignEach [tg] X.env).map (·.2) = [assign tg X.env] := by rfl) (sub : ∀ i ∈ Me, i ∈ M := by decide) : SS X κ M k (.Assign [tg] e pos) (wAsgG f w) :=
  SS.of (ps_asg he hg hs hw h1) fun D σ H ⟨g, env, W, F, hw, n, b, c, r⟩ => ⟨g, env, _, F, hw, fun v H1 g1 e1 d F1 s1 r1 ⟨e2, ee, w1⟩ =>
    ⟨g1, e1, d, e2, F1, r1, ee, fun σ' F' _ => n g1 e2 σ' H1 F' (((s1.mono sub).toS F F1).trans (.refl F1)) w1⟩⟩
/-! name = value -/
theorem ss_set {i : Nat} {x : Str} {pos' : Pos} (hN : X.N.Nodup) (hi : X.N[i]? = some x) (hx : Loc X.env.scope x) (he : SE X κ Me .fz e w) (hk : kindOf κ i = .v) (hs : swapsWith e (some (.Name x pos')) pos.line X.env = pure false := by rfl) (sub : ∀ i ∈ Me, i ∈ M := by decide)
    (hf : X.fn x = true ∨ X.env.scope.names.lookup x = some .local := by first | exact .inl rfl | exact .inr rfl | assumption) : SS X κ M k (.Assign [.Name x pos'] e pos) (wAsg i w) := ss_tAsg (ps_set hN hi hx he hs hf) hk sub
theorem ss_setO {i : Nat} {x : Str} {pos' : Pos} (hN : X.N.Nodup) (hi : X.N[i]? = some x) (hx : Loc X.env.scope x) (he : SE X κ Me .nw e w) (hk : kindOf κ i = .o) (hs : swapsWith e (some (.Name x pos')) pos.line X.env = pure false := by rfl) (hm : i ∈ M := by decide) (sub : ∀ i ∈ Me, i ∈ M := by decide)
    (hf : X.fn x = true ∨ X.env.scope.names.lookup x = some .local := by first | exact .inl rfl | exact .inr rfl | assumption) : SS X κ M k (.Assign [.Name x pos'] e pos) (wAsg i w) := ss_tAsgO (ps_set hN hi hx he hs hf) hk hm sub
theorem ss_setF {i : Nat} {x : Str} {pos' : Pos} (hN : X.N.Nodup) (hi : X.N[i]? = some x) (hx : Loc X.env.scope x) (he : SE X κ Me .nw e w) (hk : kindOf κ i = .f) (hs : swapsWith e (some (.Name x pos')) pos.line X.env = pure false := by rfl) (hm : i ∈ M := by decide) (sub : ∀ i ∈ Me, i ∈ M := by decide)
    (hf : X.fn x = true ∨ X.env.scope.names.lookup x = some .local := by first | exact .inl rfl | exact .inr rfl | assumption) : SS X κ M k (.Assign [.Name x pos'] e pos) (wAsg i w) := ss_tAsgF (ps_set hN hi hx he hs hf) hk hm sub
theorem ss_setP {i : Nat} {x : Str} {pos' : Pos} (hN : X.N.Nodup) (hi : X.N[i]? = some x) (hx : Loc X.env.scope x) (he : SE X κ Me .nw e w) (hk : kindOf κ i = .p) (hs : swapsWith e (some (.Name x pos')) pos.line X.env = pure false := by rfl) (sub : ∀ i ∈ Me, i ∈ M := by decide)
    (hf : X.fn x = true ∨ X.env.scope.names.lookup x = some .local := by first | exact .inl rfl | exact .inr rfl | assumption) : SS X κ M k (.Assign [.Name x pos'] e pos) (wAsgP i w) := ss_tAsgP (ps_set hN hi hx he hs hf) hk sub
/-! an own list changed -/
/-- the thing of slot i is written anew -/
theorem Frm.put {K : PySem.W.Frag} {g : Rg} {env : En} {σ : St} {H : Hp} {i : Nat} {a : Addr} {d : D} {o : HO} (F : Frm K κ g env σ H) (hk : kindOf κ i = .o ∨ kindOf κ i = .q) (ea : g.al i = some a) (es : σ[i]? = some (some (.ref a))) (mt : ∀ xs, H a ≠ some (.tup xs))
    (r : Obj1 K (upd H a o) g.own a d) : Frm K κ g (env.set i (some d)) σ (upd H a o) := by
  have off : ∀ b x, ¬ g.own b → H b = some x → (upd H a o) b = some x := fun b x n e => by
    rw [upd_ne (fun z => n (by rw [z]; exact .inr ⟨i, ea⟩))]; exact e
  have nO := (F.alo i a ea).1
  have oth : ∀ b x, b ≠ a → H b = some x → (upd H a o) b = some x := fun b x n e => by rw [upd_ne n]; exact e
  have th : ∀ b, Tk H b → Tk (upd H a o) b := fun b n => by
    by_cases h : b = a
    · subst h; exact r.tk
    · exact n.of fun o e => by rw [upd_ne h]; exact e
  refine ⟨by simp [F.ln], F.sl, fun j d' e => ?_, F.inj, fun j b e => ⟨(F.alo' j b e).1, th b (F.alo' j b e).2⟩, fun b q => th b (F.ot' b q), F.il, fun b q => ⟨(F.pl b q).1, ?_⟩⟩
  · by_cases hj : i = j
    · subst hj
      have hi : i < env.length := by
        apply Classical.byContradiction
        intro c
        rw [List.getElem?_eq_none (by simpa using c)] at e; cases e
      rw [List.getElem?_set_self hi] at e
      cases e
      refine ⟨.ref a, es, ?_⟩
      rcases hk with hk | hk <;> rw [hk] <;> exact ⟨a, rfl, ea, r⟩
    · rw [List.getElem?_set_ne hj] at e
      obtain ⟨v, e1, s⟩ := F.ev j d' e
      refine ⟨v, e1, ?_⟩
      have own : ∀ b, g.own b → g.own b ∨ H b = none := fun _ q => .inl q
      have nal : ∀ b, g.al j = some b → b ≠ a := fun b e z => hj (F.inj i j a ea (by rw [← z]; exact e))
      cases hkj : kindOf κ j <;> rw [hkj] at s <;> unfold SlotK at s ⊢ <;> simp only at s ⊢
      · exact Rep.keep off own s
      · rcases s with s | ⟨b, rfl, np, na, s⟩
        · exact .inl (Rep.keep off own s)
        · exact .inr ⟨b, rfl, np, na, s.keep (fun x q => oth b x (fun z => nO (by rw [← z]; exact F.il b na)) q) off own⟩
      · obtain ⟨b, rfl, eb, s⟩ := s
        exact ⟨b, rfl, eb, s.keep (fun x q => oth b x (nal b eb) q) off own⟩
      · obtain ⟨b, rfl, eb, s⟩ := s
        exact ⟨b, rfl, eb, s.keep (fun x q => oth b x (nal b eb) q) off own⟩
      · exact s
      · rcases s with ⟨b, rfl, eb, s⟩ | ⟨d', e', s⟩
        · exact .inl ⟨b, rfl, eb, s.keep (fun x q => oth b x (nal b eb) q) off own⟩
        · exact .inr ⟨d', e', Rep.keep off own s⟩
  · obtain ⟨x, y, z, e⟩ := (F.pl b q).2
    exact ⟨x, y, z, oth b _ (fun z => nO (by rw [← z]; exact (F.pl b q).1)) e⟩
theorem EStep.put {g : Rg} {K : PySem.W.Frag} {env : En} {σ : St} {H : Hp} {i : Nat} {a : Addr} {o : HO} (F : Frm K κ g env σ H) (ea : g.al i = some a) (hi : i ∈ M) : EStep M g g H (upd H a o) := by
  refine ⟨rfl, rfl, rfl, fun _ q => q, fun _ q => .inl q, fun b x e p q => by rw [upd_ne (fun z => q i hi (by rw [z]; exact ea))]; exact e, fun b p ⟨x, y, z, e⟩ => ⟨x, y, z, ?_⟩⟩
  rw [upd_ne (fun z => (F.alo i a ea).1 (by rw [← z]; exact (F.pl b p).1))]; exact e
/-- what a method of a list does, by values and over data; z is told for good -/
def MtD (K : PySem.W.Frag) (r : V → List V → Hp → VK → Prop) (f : List D → List D → Option (D × List D)) (ks : List RK) : Prop := ∀ (κ : List SK) (g : Rg) (env : En) (σ : St) (H0 H : Hp) (a : Addr) (xs : List V) (dxs ds dxs' : List D) (vs : List V) (z : D) (Q : VK),
  Frm K κ g env σ H → g.own a → H a = some (.lst xs) → xs.length ≤ sizeLine → RepAll K H g.own xs dxs → ResA K g H0 H ks vs ds → f dxs ds = some (z, dxs') →
  (∀ v xs', RepAll K H g.own xs' dxs' → xs'.length ≤ sizeLine → Rep K H g.own v z → Q v (upd H a (.lst xs'))) → r (.ref a) vs H Q
theorem mut_go {i : Nat} {Ma : List Nat} {ks : List RK} {wl : WA} {T : String} {r : V → List V → Hp → VK → Prop} {f : List D → List D → Option (D × List D)} (hf : MtD X.K r f ks) (hk : kindOf κ i = .o ∨ kindOf κ i = .q) (hi : i ∈ M) (subA : ∀ i ∈ Ma, i ∈ M) (hT : T = "list") (σ : St) (H : Hp) (Q : VK)
    (h : cE X.K κ M .fz (wMut i f wl) σ H Q) : tBM X.K T r (tVar i) (cA X.K κ Ma ks wl) σ H Q := by
  subst hT
  obtain ⟨g, env, W, F, hw, post⟩ := h
  unfold tBM tVar
  obtain ⟨⟨xs0, e0⟩, hw⟩ := hw
  obtain ⟨v0, sv, sl⟩ := F.ev i _ e0
  have sl' : ∃ a, v0 = .ref a ∧ g.al i = some a ∧ Obj1 X.K H g.own a (.list xs0) := by rcases hk with hk | hk <;> rw [hk] at sl <;> exact sl
  obtain ⟨a, rfl, ea, ob⟩ := sl'
  refine ⟨_, sv, ?_, g, env, _, F, hw, fun vs H1 g1 e1 ds F1 s1 r1 w1 => ?_⟩
  · cases ob with | lst q z al => exact .inl ⟨rfl, _, .inl (.inl q)⟩
  · obtain ⟨dxs, z, dxs', e2, ef, w1⟩ := w1
    obtain ⟨v1, sv1, sl1⟩ := F1.ev i _ e2
    rw [sv] at sv1; cases sv1
    have sl1' : ∃ a', V.ref a = .ref a' ∧ g1.al i = some a' ∧ Obj1 X.K H1 g1.own a' (.list dxs) := by rcases hk with hk | hk <;> rw [hk] at sl1 <;> exact sl1
    obtain ⟨a', ee, ea1, ob1⟩ := sl1'
    cases ee
    cases ob1 with
    | lst q zl al =>
      refine hf κ g1 e1 σ H H1 a _ dxs ds dxs' vs z Q F1 (.inr ⟨i, ea1⟩) q zl al r1 ef fun v xs' al' zl' rz => ?_
      have off : ∀ b x, ¬ g1.own b → H1 b = some x → (upd H1 a (.lst xs')) b = some x := fun b x n e => by
        rw [upd_ne (fun z => n (by rw [z]; exact .inr ⟨i, ea1⟩))]; exact e
      exact post v _ g1 _ z (F1.put hk ea1 sv (fun ys z => by rw [q] at z; cases z) (.lst upd_same zl' (al'.keep off fun _ q => .inl q))) ((s1.mono subA).tr (.put F1 ea1 hi) F F1) (Rep.keep off (fun _ q => .inl q) rz) w1
theorem se_mut {i : Nat} {Ma : List Nat} {x name : Str} {id : String} {ks : List RK} {wl : WA} {r : V → List V → Hp → VK → Prop} {f : List D → List D → Option (D × List D)} {px apos cpos : Pos} {es : List Expr} (slot : Slot "list" name id) (hty : typeOf (.builtin id) = pure (.type "method_descriptor")) (hm : MtR X id r) (hf : MtD X.K r f ks)
    (ho : PE X (.Name x px) (tVar i)) (ha : SA X κ Ma ks (e :: es) wl) (hk : kindOf κ i = .o ∨ kindOf κ i = .q) (hi : i ∈ M := by decide) (subA : ∀ i ∈ Ma, i ∈ M := by decide) (hbase : attributeBase (.Name x px) name X.env (eval (.Name x px) X.env) = eval (.Name x px) X.env := by rfl)
    (hfew : ((backTo cpos (starEach (e :: es) X.env)).all (fun x => !x.1) && (backToKw cpos (keywordEach [] X.env)).all (fun x => x.1.isSome)
      && decide ((e :: es).length + ([] : List Keyword).length + (if ([] : List Keyword).isEmpty then 0 else 1) < 30)) = true := by rfl)
    (hline : (apos.endLine == cpos.line) = true := by rfl) (hs : starEach (e :: es) X.env = (false, eval e X.env) :: starEach es X.env := by rfl) (hplain : (backTo cpos (starEach es X.env)).any (·.1) = false := by rfl) :
    SE X κ M .fz (.Call (.Attribute (.Name x px) name apos) (e :: es) [] cpos) (wMut i f wl) :=
  SE.of (pe_bm PySem.F.plainAttrs_list slot hty hm ho ha hbase hfew hline hs hplain) (mut_go hf hk hi subA rfl)
/-- xs[i] = v, an own list -/
theorem ss_setix {i : Nat} {x : Str} {px spos : Pos} {ix : Expr} {kx : RK} {wx : WE} (ho : PE X (.Name x px) (tVar i)) (hv : SE X κ Me .fz e w) (hx : SE X κ Me kx ix wx) (hk : kindOf κ i = .o ∨ kindOf κ i = .q) (px' : kx.rdable = true := by rfl) (hi : i ∈ M := by decide) (sub : ∀ i ∈ Me, i ∈ M := by decide)
    (ha : ∀ v, assign (.Subscript (.Name x px) ix spos) X.env v = (do
      let ov ← holding [v] (eval (.Name x px) X.env)
      let iv ← holding [v, ov] (eval ix X.env)
      standAt spos
      holding [v, ov, iv] (setItem ov iv v)
      release [v, ov, iv] []) := by intro _; rfl) (hs : swapsWithSole [.Subscript (.Name x px) ix spos] e pos.line X.env = pure false := by rfl) (hw : swappedStores [.Subscript (.Name x px) ix spos] e X.env = pure none := by rfl)
    (h1 : (assignEach [.Subscript (.Name x px) ix spos] X.env).map (·.2) = [assign (.Subscript (.Name x px) ix spos) X.env] := by rfl) : SS X κ M k (.Assign [.Subscript (.Name x px) ix spos] e pos) (wSetIx i w wx) :=
  SS.of (ps_asg hv (pg_sub ho hx set_list ha) hs hw h1) fun D σ H ⟨g, env, W, F, hw, n, b, c, r⟩ => ⟨g, env, _, F, hw, fun v H1 g1 e1 d F1 s1 r1 ⟨⟨xs0, e0⟩, w1⟩ => by
    obtain ⟨v0, sv, sl⟩ := F1.ev i _ e0
    have sl' : ∃ a, v0 = .ref a ∧ g1.al i = some a ∧ Obj1 X.K H1 g1.own a (.list xs0) := by rcases hk with hk | hk <;> rw [hk] at sl <;> exact sl
    obtain ⟨a, rfl, ea, ob⟩ := sl'
    refine ⟨_, sv, g1, e1, _, F1, w1, fun y H2 g2 e2 d2 F2 s2 r2 ⟨kk, xs, m, ed, e3, em, w2⟩ => ?_⟩
    subst ed
    have ey : y = .int kk := by
      rcases r2.rdb px' with q | ⟨a, _, q⟩
      · exact q.toInt
      · cases q
    subst ey
    obtain ⟨v1, sv1, sl1⟩ := F2.ev i _ e3
    rw [sv] at sv1; cases sv1
    have sl1' : ∃ a', V.ref a = .ref a' ∧ g2.al i = some a' ∧ Obj1 X.K H2 g2.own a' (.list xs) := by rcases hk with hk | hk <;> rw [hk] at sl1 <;> exact sl1
    obtain ⟨a', ee, ea1, ob1⟩ := sl1'
    cases ee
    have rv : Rep X.K H2 g2.own v d := Res.step (k := .fz) (H0 := H) r1 s2 F1 rfl
    cases ob1 with
    | @lst ws _ q zl al =>
      refine ⟨a, _, kk, m, rfl, rfl, q, by rw [al.length]; exact em, ?_⟩
      have off : ∀ b x, ¬ g2.own b → H2 b = some x → (upd H2 a (.lst (List.set ws m v))) b = some x := fun b x n e => by
        rw [upd_ne (fun z => n (by rw [z]; exact .inr ⟨i, ea1⟩))]; exact e
      have F3 := F2.put (d := .list (xs.set m d)) (o := .lst (List.set ws m v)) hk ea1 sv (fun ys z => by rw [q] at z; cases z) (.lst upd_same (by simpa using zl) ((RepAll.set rv m al).keep off fun _ q => .inl q))
      have s12 := ((s1.tr s2 F F1).mono sub).tr (.put (o := .lst (List.set ws m v)) F2 ea1 hi) F F2
      exact n g2 _ σ _ F3 (s12.toS F F3) w2⟩
/-! while -/
theorem ss_while {c : Expr} {body : List Stmt} {wt : WT} (hp : PassesOwn (model X.prog X.w) X.A X.env X.xe) (hc : ST X κ Me c wt) (hb : SSs X κ M k body s) (sub : ∀ i ∈ Me, i ∈ M := by decide) : SS X κ M k (.While c body [] pos) (wWhile wt s) :=
  SS.of (ps_while hp hc hb) fun D σ H ⟨g, env, W, F, ⟨m0, hw⟩, n, b, c, r⟩ => by
    refine ⟨fun m σ' H' => ∃ g' env', Frm X.K κ g' env' σ' H' ∧ SStep κ M g g' H H' ∧ whileN wt s W m env', ⟨m0, g, env, F, .refl F, hw⟩, ?_⟩
    rintro m σ1 H1 ⟨g1, e1, F1, s1, w1⟩
    cases m with
    | zero => exact w1.elim
    | succ m =>
      refine ⟨g1, e1, _, F1, w1, fun x H2 g2 e2 F2 s2 w2 => ?_⟩
      have s12 := s1.trans ((s2.mono sub).toS F1 F2)
      cases x with
      | false => exact n g2 e2 σ1 H2 F2 s12 w2
      | true =>
        refine ⟨fun σ' H' => ∃ g' env', Frm X.K κ g' env' σ' H' ∧ SStep κ M g g' H H' ∧ whileN wt s W m env', fun σ' H' q => ⟨m, Nat.lt_succ_self m, q⟩, ?_⟩
        refine ⟨g2, e2, _, F2, w2, fun g' env' σ' H' F' s' q => ⟨g', env', F', s12.trans s', q⟩, fun g' env' σ' H' F' s' q => n g' env' σ' H' F' (s12.trans s') q, fun g' env' σ' H' F' s' q => ⟨g', env', F', s12.trans s', q⟩, fun g' env' σ' H' v d F' s' rr q => r g' env' σ' H' v d F' (s12.trans s') (rr.back s12) q⟩
end
end G7

set_option maxRecDepth 100000
/-! what is walked: for, comprehensions -/
namespace G7
open PySem PySem.Spec PyProof.Rows L2

/-- the walk's items, as long as the sources L stand -/
structure Walk (K : PySem.W.Frag) (J : It) (xs : List D) (L : Rg → Hp → Prop) : Prop where
  go : ∀ g H i, L g H → (∀ a, g.own a → H a ≠ none) → i < xs.length → J.go i H
  yd : ∀ g H i v H', L g H → (∀ a, g.own a → H a ≠ none) → i < xs.length → J.yld i H v H' → (∀ b o, H b = some o → H' b = some o) ∧ ∃ x, xs[i]? = some x ∧ Rep K H' g.own v x
  stop : ∀ g H, L g H → J.stop xs.length H
  lenL : ∀ g H, L g H → xs.length ≤ sizeLine
def Holds (κ : List SK) (N : List Nat) (L : Rg → Hp → Prop) : Prop := ∀ (K : PySem.W.Frag) M g g' env env' σ σ' H H', (∀ i ∈ M, i ∉ N) → Frm K κ g env σ H → Frm K κ g' env' σ' H' → SStep κ M g g' H H' → L g H → L g' H'
def cI (K : PySem.W.Frag) (κ : List SK) (M N : List Nat) (w : WI) : TI := fun σ H R => ∃ g env W, Frm K κ g env σ H ∧ w env W ∧
  ∀ J H' g' env' xs L, Frm K κ g' env' σ H' → EStep M g g' H H' → L g' H' → Holds κ N L → Walk K J xs L → W xs env' → R J H'
def SI (X : Cx) (κ : List SK) (M N : List Nat) (tg iter : Expr) (w : WI) : Prop := PI X tg iter (cI X.K κ M N w)
theorem SI.of {X : Cx} {κ : List SK} {M N : List Nat} {tg iter : Expr} {w : WI} {t : TI} (h : PI X tg iter t) (i : ∀ σ H R, cI X.K κ M N w σ H R → t σ H R) : SI X κ M N tg iter w := ⟨fun pins s σ H R I q => h.run pins s σ H R I (i σ H R q)⟩

section
variable {X : Cx} {κ : List SK} {M Me Mt N : List Nat} {k : RK} {e tg iter : Expr} {w : WE} {s : WS} {wi : WI} {f : WG} {ts : List Nat} {pos : Pos}
theorem ss_for {body : List Stmt} (hp : PassesOwn (model X.prog X.w) X.A X.env X.xe) (hc : X.calm = true) (hi : SI X κ Me N tg iter wi) (hg : SG X κ ts tg f) (hb : SSs X κ M k body s) (dis : ∀ i ∈ M, i ∉ N := by decide) (sub : ∀ i ∈ Me, i ∈ M := by decide)
    (hs : ∀ x, foldedSetIterable iter X.env x = pure x := by intro _; rfl) : SS X κ M k (.For tg iter body [] pos) (wFor wi f s) :=
  SS.of (ps_for hp hc hi hg hb hs) fun D σ H ⟨g, env, W, F, hw, n, b, c, r⟩ => ⟨g, env, _, F, hw, fun J H1 g1 e1 xs L F1 s1 L1 hL wk w1 => by
    have s1' := (s1.mono sub).toS F F1
    refine ⟨fun i m σ' H' => m = xs.length - i ∧ i ≤ xs.length ∧ ∃ g' env', Frm X.K κ g' env' σ' H' ∧ SStep κ M g1 g' H1 H' ∧ forL f s W (xs.drop i) env', ⟨xs.length, by simp, Nat.zero_le _, g1, e1, F1, .refl F1, by simpa using w1⟩, ?_⟩
    rintro i m σ2 H2 ⟨rfl, hi2, g2, e2, F2, s2, w2⟩
    have L2 := hL X.K M g1 g2 e1 e2 σ σ2 H1 H2 dis F1 F2 s2 L1
    by_cases hlt : i < xs.length
    · refine .inr ⟨wk.go g2 H2 i L2 (fun a => F2.own_ne) hlt, fun σ' H' => i < xs.length ∧ ∃ g' env', Frm X.K κ g' env' σ' H' ∧ SStep κ M g1 g' H1 H' ∧ forL f s W (xs.drop (i + 1)) env', fun σ' H' q => ⟨xs.length - (i + 1), by omega, rfl, by omega, q.2⟩, fun v H3 y => ?_⟩
      obtain ⟨kp, x, ex, rx⟩ := wk.yd g2 H2 i v H3 L2 (fun a => F2.own_ne) hlt y
      have F3 : Frm X.K κ g2 e2 σ2 H3 := F2.same kp
      have s3 : SStep κ M g1 g2 H1 H3 := s2.trans ((EStep.same (M := M) (g := g2) kp).toS F2 F3)
      have ed : xs.drop i = x :: xs.drop (i + 1) := by
        rw [List.drop_eq_getElem_cons hlt]
        rw [List.getElem?_eq_getElem hlt] at ex
        cases ex; rfl
      rw [ed] at w2
      obtain ⟨e3, ee, w3⟩ := w2
      refine ⟨g2, e2, x, e3, F3, rx, ee, fun σ4 F4 _ => ?_⟩
      have s4 : SStep κ M g1 g2 H1 H3 := s3
      refine ⟨g2, e3, _, F4, w3, fun g' env' σ' H' F' s' q => ⟨hlt, g', env', F', s4.trans s', q⟩, fun g' env' σ' H' F' s' q => n g' env' σ' H' F' (s1'.trans (s4.trans s')) q, fun g' env' σ' H' F' s' q => ⟨hlt, g', env', F', s4.trans s', q⟩,
        fun g' env' σ' H' v d F' s' rr q => r g' env' σ' H' v d F' (s1'.trans (s4.trans s')) ((rr.back s4).back s1') q⟩
    · have e : i = xs.length := by omega
      subst e
      rw [List.drop_length] at w2
      exact .inl ⟨wk.stop g2 H2 L2, n g2 e2 σ2 H2 F2 (s1'.trans s2) w2⟩⟩
/-! comprehensions -/
theorem wp_len (e : En) : ∀ vs : List Nat, (wp e vs).length = e.length
  | [] => rfl
  | v :: vs => by unfold wp; rw [List.length_set, wp_len e vs]
theorem back_len (e e2 : En) : ∀ vs : List Nat, (back e e2 vs).length = e2.length
  | [] => rfl
  | v :: vs => by unfold back; rw [List.length_set, back_len e e2 vs]
theorem wp_get {e : En} {i : Nat} {d : D} : ∀ {vs : List Nat}, (wp e vs)[i]? = some (some d) → e[i]? = some (some d) ∧ i ∉ vs
  | [], h => ⟨h, by simp⟩
  | v :: vs, h => by
    unfold wp at h
    by_cases hi : v = i
    · subst hi
      by_cases hv : v < (wp e vs).length
      · rw [List.getElem?_set_self hv] at h; cases h
      · rw [List.getElem?_eq_none (by simpa using hv)] at h; cases h
    · rw [List.getElem?_set_ne hi] at h
      obtain ⟨h1, h2⟩ := wp_get h
      exact ⟨h1, by simp only [List.mem_cons, not_or]; exact ⟨fun z => hi z.symm, h2⟩⟩
theorem back_get {e e2 : En} {i : Nat} {d : D} : ∀ {vs : List Nat}, (back e e2 vs)[i]? = some (some d) → (i ∈ vs ∧ e[i]? = some (some d)) ∨ (i ∉ vs ∧ e2[i]? = some (some d))
  | [], h => .inr ⟨by simp, h⟩
  | v :: vs, h => by
    unfold back at h
    by_cases hi : v = i
    · subst hi
      by_cases hv : v < (back e e2 vs).length
      · rw [List.getElem?_set_self hv] at h
        left
        refine ⟨by simp, ?_⟩
        have h' : (e[v]?).getD none = some d := Option.some.inj h
        cases q : e[v]? with
        | none => rw [q] at h'; cases h'
        | some x => rw [q] at h'; simp at h'; rw [h']
      · rw [List.getElem?_eq_none (by simpa using hv)] at h; cases h
    · rw [List.getElem?_set_ne hi] at h
      rcases back_get h with ⟨h1, h2⟩ | ⟨h1, h2⟩
      · exact .inl ⟨by simp [h1], h2⟩
      · exact .inr ⟨by simp only [List.mem_cons, not_or]; exact ⟨fun z => hi z.symm, h1⟩, h2⟩
theorem wipe_get {σ : St} {i : Nat} : ∀ {vs : List Nat}, i ∉ vs → (wipe σ vs)[i]? = σ[i]?
  | [], _ => rfl
  | v :: vs, h => by
    simp only [List.mem_cons, not_or] at h
    unfold wipe
    rw [List.getElem?_set_ne (fun z => h.1 z.symm)]
    exact wipe_get h.2
theorem Frm.wp {K : PySem.W.Frag} {g : Rg} {env : En} {σ : St} {H : Hp} (F : Frm K κ g env σ H) (vs : List Nat) : Frm K κ g (G7.wp env vs) (wipe σ vs) H :=
  ⟨by rw [wp_len]; exact F.ln, by rw [wipe_length]; exact F.sl, fun i d e => by
    obtain ⟨e1, n⟩ := wp_get e
    obtain ⟨v, e2, s⟩ := F.ev i d e1
    exact ⟨v, by rw [wipe_get n]; exact e2, s⟩, F.inj, F.alo', F.ot', F.il, F.pl⟩
theorem Frm.back {K : PySem.W.Frag} {g g1 : Rg} {e1 e2 : En} {σ : St} {H H1 : Hp} {vs : List Nat} (F1 : Frm K κ g1 e1 σ H1) (s : EStep M g1 g H1 H) (F : Frm K κ g e2 (wipe σ vs) H) (hv : ∀ i ∈ vs, kindOf κ i = .v) : Frm K κ g (G7.back e1 e2 vs) σ H :=
  ⟨by rw [back_len]; exact F.ln, F1.sl, fun i d e => by
    rcases back_get e with ⟨hi, e1⟩ | ⟨hi, e1⟩
    · obtain ⟨v, e2, sl⟩ := F1.ev i d e1
      rw [hv i hi] at sl ⊢
      exact ⟨v, e2, Rep.keep (s.off F1) s.own sl⟩
    · obtain ⟨v, e2, sl⟩ := F.ev i d e1
      rw [wipe_get hi] at e2
      exact ⟨v, e2, sl⟩, F.inj, F.alo', F.ot', F.il, F.pl⟩
theorem wipe_off {σ σ' : St} : ∀ {vs : List Nat}, Off vs (wipe σ vs) σ' → wipe σ' vs = wipe σ vs := fun {vs} ⟨hl, h⟩ => by
  apply List.ext_getElem?
  intro i
  by_cases hi : i ∈ vs
  · have z : ∀ (τ : St) (us : List Nat), i ∈ us → i < τ.length → (wipe τ us)[i]? = some none := by
      intro τ us
      induction us with
      | nil => intro h; simp at h
      | cons u us ih =>
        intro h hl
        unfold wipe
        by_cases hu : u = i
        · subst hu; rw [List.getElem?_set_self (by rw [wipe_length]; exact hl)]
        · rw [List.getElem?_set_ne hu]
          exact ih ((List.mem_cons.mp h).resolve_left fun z => hu z.symm) hl
    have hl' : σ'.length = σ.length := by rw [hl, wipe_length]
    by_cases hb : i < σ.length
    · rw [z σ' vs hi (by omega), z σ vs hi hb]
    · rw [List.getElem?_eq_none (by rw [wipe_length]; omega), List.getElem?_eq_none (by rw [wipe_length]; omega)]
  · rw [wipe_get hi, h i hi]
theorem Off.mono {ts us : List Nat} {σ σ' : St} (h : Off ts σ σ') (s : ∀ i ∈ ts, i ∈ us) : Off us σ σ' := ⟨h.1, fun j hj => h.2 j fun z => hj (s j z)⟩
theorem Frm.upd {K : PySem.W.Frag} {g : Rg} {env : En} {σ : St} {H : Hp} {a : Addr} {o : HO} (F : Frm K κ g env σ H) (hO : g.O a) (hP : ¬ g.P a) (hI : ¬ g.I a) (ht : ∀ xs, o ≠ .tup xs := by intro _ h; cases h) : Frm K κ g env σ (upd H a o) := by
  have off : ∀ b x, ¬ g.own b → H b = some x → (L2.upd H a o) b = some x := fun b x n e => by
    rw [upd_ne (fun z => n (by rw [z]; exact .inl hO))]; exact e
  have oth : ∀ b x, b ≠ a → H b = some x → (L2.upd H a o) b = some x := fun b x n e => by rw [upd_ne n]; exact e
  have th : ∀ b, Tk H b → Tk (L2.upd H a o) b := fun b n => by
    by_cases h : b = a
    · subst h; exact ⟨by rw [upd_same]; simp, fun xs z => by rw [upd_same] at z; exact ht xs (Option.some.inj z)⟩
    · exact n.of fun o e => by rw [upd_ne h]; exact e
  have own : ∀ b, g.own b → g.own b ∨ H b = none := fun _ q => .inl q
  refine ⟨F.ln, F.sl, fun j d' e => ?_, F.inj, fun j b e => ⟨(F.alo' j b e).1, th b (F.alo' j b e).2⟩, fun b q => th b (F.ot' b q), F.il, fun b q => ⟨(F.pl b q).1, ?_⟩⟩
  · obtain ⟨v, e1, s⟩ := F.ev j d' e
    refine ⟨v, e1, ?_⟩
    have nal : ∀ b, g.al j = some b → b ≠ a := fun b e z => (F.alo j b e).1 (by rw [z]; exact hO)
    cases hkj : kindOf κ j <;> rw [hkj] at s <;> unfold SlotK at s ⊢ <;> simp only at s ⊢
    · exact Rep.keep off own s
    · rcases s with s | ⟨b, rfl, np, na, s⟩
      · exact .inl (Rep.keep off own s)
      · exact .inr ⟨b, rfl, np, na, s.keep (fun x q => oth b x (fun z => hI (by rw [← z]; exact na)) q) off own⟩
    · obtain ⟨b, rfl, eb, s⟩ := s
      exact ⟨b, rfl, eb, s.keep (fun x q => oth b x (nal b eb) q) off own⟩
    · obtain ⟨b, rfl, eb, s⟩ := s
      exact ⟨b, rfl, eb, s.keep (fun x q => oth b x (nal b eb) q) off own⟩
    · exact s
    · rcases s with ⟨b, rfl, eb, s⟩ | ⟨d', e', s⟩
      · exact .inl ⟨b, rfl, eb, s.keep (fun x q => oth b x (nal b eb) q) off own⟩
      · exact .inr ⟨d', e', Rep.keep off own s⟩
  · obtain ⟨x, y, z, e⟩ := (F.pl b q).2
    exact ⟨x, y, z, oth b _ (fun z => hP (by rw [← z]; exact q)) e⟩
theorem comp_go {K : PySem.W.Frag} {vs : List Nat} {t : WT} (hv : ∀ i ∈ vs, kindOf κ i = .v) (hts : ∀ i ∈ ts, i ∈ vs) (dis : ∀ i ∈ M, i ∉ N) (σ : St) (H : Hp) (Q : VK)
    (h : cE K κ M .nw (wComp wi f vs t w) σ H Q) : tLc (cI K κ M N wi) (cG K κ ts f) (cT K κ M t) (cE K κ M .fz w) vs σ H Q := by
  obtain ⟨g, env, W, F, hw, post⟩ := h
  refine ⟨g, env, _, F, hw, fun J H1 g1 e1 xs L F1 s1 L1 hL wk w1 Da hD => ?_⟩
  have FD := F1.new (o := HO.lst []) hD
  have sD : EStep M g1 (g1.add Da) H1 (upd H1 Da (.lst [])) := .new hD
  have nDo : ¬ g1.own Da := fun q => F1.own_ne q hD
  refine ⟨fun i m H' => m = xs.length - i ∧ i ≤ xs.length ∧ ∃ g' env' acc das, Frm K κ g' env' (wipe σ vs) H' ∧ EStep M g1 g' H1 H' ∧ g'.O Da ∧ ¬ g'.P Da ∧ H' Da = some (.lst acc) ∧ acc.length ≤ i ∧ RepAll K H' g'.own acc das ∧
    compL f vs t w (fun acc e2 => W (.list acc) (G7.back e1 e2 vs)) (xs.drop i) das env', ⟨xs.length, by simp, Nat.zero_le _, g1.add Da, _, [], [], FD.wp vs, sD, .inr rfl, fun q => nDo (F1.p_own q), upd_same, Nat.le_refl _, .nil, by simpa using w1⟩, ?_⟩
  rintro i m H2 ⟨rfl, hi, g2, e2, acc, das, F2, s2, hO, hP, hA, hacc, ra, w2⟩
  have s2' : SStep κ M g1 g2 H1 H2 := s2.toS F1 F2
  have L2 := hL K M g1 g2 e1 e2 σ (wipe σ vs) H1 H2 dis F1 F2 s2' L1
  by_cases hlt : i < xs.length
  · refine .inr ⟨wk.go g2 H2 i L2 (fun a => F2.own_ne) hlt, fun H' => i < xs.length ∧ ∃ g' env' acc das, Frm K κ g' env' (wipe σ vs) H' ∧ EStep M g1 g' H1 H' ∧ g'.O Da ∧ ¬ g'.P Da ∧ H' Da = some (.lst acc) ∧ acc.length ≤ i + 1 ∧ RepAll K H' g'.own acc das ∧
      compL f vs t w (fun acc e2 => W (.list acc) (G7.back e1 e2 vs)) (xs.drop (i + 1)) das env', fun H' q => ⟨xs.length - (i + 1), by omega, rfl, by omega, q.2⟩, fun v H3 y => ?_⟩
    obtain ⟨kp, x, ex, rx⟩ := wk.yd g2 H2 i v H3 L2 (fun a => F2.own_ne) hlt y
    have F3 : Frm K κ g2 e2 (wipe σ vs) H3 := F2.same kp
    have s3 : EStep M g1 g2 H1 H3 := s2.tr (EStep.same kp) F1 F2
    have ed : xs.drop i = x :: xs.drop (i + 1) := by
      rw [List.drop_eq_getElem_cons hlt]
      rw [List.getElem?_eq_getElem hlt] at ex
      cases ex; rfl
    rw [ed] at w2
    obtain ⟨e3, ee, w3⟩ := w2
    refine ⟨g2, e2, x, e3, F3, rx, ee, fun σ4 F4 o4 => ⟨wipe_off (o4.mono hts), g2, e3, _, F4, w3, fun c H5 g5 e5 F5 s5 w5 => ?_⟩⟩
    have s15 : EStep M g1 g5 H1 H5 := s3.tr s5 F1 F3
    have hO5 := s5.up Da hO
    have hP5 : ¬ g5.P Da := by rw [s5.P]; exact hP
    have keepD : ∀ {Ha Hb : Hp} {ga gb : Rg} {ea : En} {σa : St}, Frm K κ ga ea σa Ha → EStep M ga gb Ha Hb → ga.O Da → ¬ ga.P Da → ∀ o, Ha Da = some o → Hb Da = some o := fun {Ha Hb ga gb ea σa} Fa sa ho hp o e => sa.keep Da o e hp fun j _ z => (Fa.alo j Da z).1 ho
    have hA5 : H5 Da = some (.lst acc) := keepD F3 s5 hO hP _ (kp _ _ hA)
    have ra5 : RepAll K H5 g5.own acc das := (ra.keep (fun a o _ e => kp a o e) fun _ q => .inl q).keep (s5.off F3) s5.own
    have ew : wipe σ4 vs = wipe σ vs := wipe_off (o4.mono hts)
    cases c with
    | false =>
      refine ⟨hlt, g5, _, acc, das, ?_, s15, hO5, hP5, hA5, by omega, ra5, w5⟩
      rw [← ew]; exact F5.wp vs
    | true =>
      refine ⟨g5, e5, _, F5, w5, fun u H6 g6 e6 d6 F6 s6 r6 w6 => ?_⟩
      have hO6 := s6.up Da hO5
      have hP6 : ¬ g6.P Da := by rw [s6.P]; exact hP5
      have hA6 : H6 Da = some (.lst acc) := keepD F5 s6 hO5 hP5 _ hA5
      have ra6 : RepAll K H6 g6.own acc das := ra5.keep (s6.off F5) s6.own
      have zx : xs.length ≤ sizeLine := wk.lenL g2 H2 L2
      refine ⟨acc, hA6, by omega, ?_⟩
      have nI : ¬ g6.I Da := fun z => by
        have z' : g1.I Da := by rw [← (s15.tr s6 F1 F5).I]; exact z
        exact F1.ot Da (F1.il Da z') hD
      have s16 := s15.tr s6 F1 F5
      have F7 : Frm K κ g6 (G7.wp e6 vs) (wipe σ vs) (upd H6 Da (.lst (acc ++ [u]))) := by
        rw [← ew]
        exact (F6.upd hO6 hP6 nI).wp vs
      have off : ∀ a o, ¬ g6.own a → H6 a = some o → (upd H6 Da (.lst (acc ++ [u]))) a = some o := fun a o n e => by rw [upd_ne (fun z => n (by rw [z]; exact .inl hO6))]; exact e
      refine ⟨hlt, g6, _, acc ++ [u], das ++ [d6], F7, ⟨s16.al, s16.P, s16.I, s16.up, s16.dn, fun b o e p q => ?_, fun b p q => ?_⟩, hO6, hP6, upd_same, by simp; omega, (ra6.append (.cons r6 .nil)).keep off fun _ q => .inl q, w6⟩
      · rw [upd_ne (ne_of_none e hD)]; exact s16.keep b o e p q
      · obtain ⟨x, y, z, e⟩ := s16.pool b p q
        exact ⟨x, y, z, by rw [upd_ne (fun z => hP6 (by rw [s16.P, ← z]; exact p))]; exact e⟩
  · have e : i = xs.length := by omega
    subst e
    rw [List.drop_length] at w2
    refine .inl ⟨wk.stop g2 H2 L2, ?_⟩
    have F5 := F1.back s2 F2 hv
    refine post (.ref Da) H2 g2 _ (.list das) F5 (s1.tr s2 F F1) ⟨Da, rfl, s1.there F F1 hD, hO, hP, .lst hA ?_ ra⟩ w2
    exact Nat.le_trans hacc (wk.lenL g2 H2 L2)
end
end G7

set_option maxRecDepth 100000
/-! operators and built-ins, by values and over data -/
namespace G7
open PySem PySem.Spec PyProof.Rows L2

section
variable {K : PySem.W.Frag} {κ : List SK} {g : Rg} {env : En} {σ : St} {H : Hp} {S : Addr → Prop} {v : V} {p : Addr} {vs : List V} {ds : List D} {Q : VK}
theorem RdB.toInt {i : Int} (r : RdB K H S v (.int i)) : v = .int i := r.elim Rep.toInt fun ⟨_, _, q⟩ => by cases q
theorem RdB.toBl {i : Bool} (r : RdB K H S v (.bool i)) : v = .bl i := r.elim Rep.toBl fun ⟨_, _, q⟩ => by cases q
theorem RdB.toStr {i : Str} (r : RdB K H S v (.str i)) : v = .str i := r.elim Rep.toStr fun ⟨_, _, q⟩ => by cases q
theorem RdB.toNon (r : RdB K H S v .none) : v = .non := r.elim Rep.toNon fun ⟨_, _, q⟩ => by cases q
theorem RdB.toLst (r : RdB K H S v (.list ds)) : ∃ a xs, v = .ref a ∧ Rd H a (.lst xs) ∧ xs.length ≤ sizeLine ∧ RepAll K H S xs ds := by
  rcases r with r | ⟨a, e, r⟩
  · cases r with | lst n q z al => exact ⟨_, _, rfl, q, z, al⟩
  · cases r with | lst q z al => exact ⟨_, _, e, q, z, al⟩
theorem RdB.toTup (r : RdB K H S v (.tuple ds)) : ∃ a xs, v = .ref a ∧ ((¬ S a ∧ Rd H a (.tup xs)) ∨ KTup K a xs) ∧ xs.length ≤ sizeLine ∧ RepAll K H S xs ds := by
  rcases r with r | ⟨a, e, r⟩
  · exact r.toTup
  · cases r
theorem RdB.xtRep (r : RdB K H S v (xtD ds)) : Rep K H S v (xtD ds) := by
  rcases r with r | ⟨a, e, r⟩
  · exact r
  · exact r.noXt.elim
theorem RdB.toTupO {d : D} (h : tupOf d = some ds) (r : RdB K H S v d) : ∃ a xs, v = .ref a ∧ ((¬ S a ∧ Rd H a (.tup xs)) ∨ KTup K a xs) ∧ xs.length ≤ sizeLine ∧ RepAll K H S xs ds := by
  rcases tupOf_cases h with rfl | rfl
  · exact r.toTup
  · exact Rep.toTupO (d := xtD ds) rfl r.xtRep
theorem RdB.tupRep (r : RdB K H S v (.tuple ds)) : Rep K H S v (.tuple ds) := by
  rcases r with r | ⟨a, e, r⟩
  · exact r
  · cases r
theorem ok_lst (F : Frm K κ g env σ H) (al : RepAll K H g.own vs ds) (z : vs.length ≤ sizeLine) (np : H p = none) (h : ∀ v H' g', Frm K κ g' env σ H' → EStep [] g g' H H' → Res K g' .fz H H' v (.list ds) → Q v H') : Q (.ref p) (upd H p (.lst vs)) :=
  h _ _ g (F.new0 np) (.new0 np) (.lst (fun q => F.own_ne q np) (.inl upd_same) z (al.keep (fun a o _ e => same_new np a o e) fun _ q => .inl q))
theorem ok_lstN (F : Frm K κ g env σ H) (al : RepAll K H g.own vs ds) (z : vs.length ≤ sizeLine) (np : H p = none) (h : ∀ v H' g', Frm K κ g' env σ H' → EStep [] g g' H H' → Res K g' .nw H H' v (.list ds) → Q v H') : Q (.ref p) (upd H p (.lst vs)) :=
  h _ _ (g.add p) (F.new np) (.new np) ⟨p, rfl, np, .inr rfl, fun q => F.own_ne (F.p_own q) np, .lst upd_same z (al.keep (fun a o _ e => same_new np a o e) fun a q => (Rg.add_own.mp q).imp id fun e => by rw [e]; exact np)⟩
theorem ok_tup (F : Frm K κ g env σ H) (al : RepAll K H g.own vs ds) (z : vs.length ≤ sizeLine) (np : H p = none) (h : ∀ v H' g', Frm K κ g' env σ H' → EStep [] g g' H H' → Res K g' .fz H H' v (.tuple ds) → Q v H') : Q (.ref p) (upd H p (.tup vs)) :=
  h _ _ g (F.new0 np) (.new0 np) (.tup (fun q => F.own_ne q np) upd_same z (al.keep (fun a o _ e => same_new np a o e) fun _ q => .inl q))
theorem ok_same {d : D} (F : Frm K κ g env σ H) (r : Rep K H g.own v d) (h : ∀ v H' g', Frm K κ g' env σ H' → EStep [] g g' H H' → Res K g' .fz H H' v d → Q v H') : Q v H := h v H g F .refl r
end
/-! reads of data for == and in -/
mutual
theorem Rep.dp {K : PySem.W.Frag} {H : Hp} {S : Addr → Prop} : ∀ {d : D} {v : V}, Rep K H S v d → d.canLay0 = true → Dp K H v d
  | _, _, .non, _ => .non
  | _, _, .bl b, _ => .bl b
  | _, _, .int i, _ => .int i
  | _, _, .str x, _ => .str x
  | _, _, .lst n r z al, h => .lst (.inl r) (al.dp (by simpa [PyData.canLay0] using h))
  | _, _, .tup n r z al, h => .tup (sqT_of (.inl ⟨n, .inl r⟩)) (al.dp (by simpa [PyData.canLay0] using h))
  | _, _, .dK n r al, h => by simp [PyData.canLay0] at h
  | _, _, .dT n r al, h => by simp [PyData.canLay0] at h
  | _, _, .xt n r e z al, h => by simp [PyData.canLay0] at h
theorem RepAll.dp {K : PySem.W.Frag} {H : Hp} {S : Addr → Prop} : ∀ {ds : List D} {vs : List V}, RepAll K H S vs ds → PyData.canLayAll0 ds = true → DpAll K H vs ds
  | _, _, .nil, _ => .nil
  | _, _, .cons r t, h => by
    simp only [PyData.canLayAll0, Bool.and_eq_true] at h
    exact .cons (r.dp h.1) (t.dp h.2)
end
theorem RdB.dp {K : PySem.W.Frag} {H : Hp} {S : Addr → Prop} {v : V} {d : D} (r : RdB K H S v d) (h : okD d = true) : Dp K H v d := by
  have hc : d.canLay0 = true := SeqAt.canLay_of_shaped h
  rcases r with r | ⟨a, rfl, r⟩
  · exact r.dp hc
  · cases r with
    | lst q z al => exact .lst (.inl q) (al.dp (by simpa [PyData.canLay0] using hc))
    | dK q al => simp [PyData.canLay0] at hc
    | dT q al => simp [PyData.canLay0] at hc
section
variable {X : Cx}
/-- + of lists that may be read -/
def rCatR : R2 := fun x y H Q => ∃ l b xs zs, x = .ref l ∧ y = .ref b ∧ Rd H l (.lst xs) ∧ Rd H b (.lst zs) ∧ xs.length + zs.length ≤ sizeLine ∧ ∀ p, H p = none → Q (.ref p) (upd H p (.lst (xs ++ zs)))
theorem op_catR : OpR X (binaryOp .Add) rCatR := by
  intro pins s σ H x y v u Q I rx ry h
  obtain ⟨l, b, xs, zs, rfl, rfl, hH, hB, hz, q⟩ := h
  cases rx
  cases ry
  obtain ⟨z, its, n, r, e⟩ := hH.ok I.hok
  obtain ⟨z2, its2, n2, r2, e2⟩ := hB.ok I.hok
  have h1 := r.length
  have h2 := r2.length
  refine PySem.P.add_list e e2 ?_ (by rw [List.size_toArray, List.size_toArray]; omega)
  have ea : its.toArray ++ its2.toArray = (its ++ its2).toArray := by simp
  rw [ea]
  exact ⟨.ref _, _, I.lnew (t' := s.toks) (r.append r2) (by rw [List.length_append]; omega), rfl, q _ I.fresh⟩
theorem and_le {a b n : Nat} (h : a + b ≤ lim) : a + b ≤ sizeLine := lim_line h
def rAddF (K : PySem.W.Frag) : R2 := fun x y H Q => rI0 (fun i j => .int (i + j)) x y H Q ∨ rCatR x y H Q ∨ rCatA K x y H Q
theorem op_addF : OpR X (binaryOp .Add) (rAddF X.K) := op_add.or (op_catR.or op_catA)
theorem od_add {K : PySem.W.Frag} : OpD K (rAddF K) addD .fz := by
  intro κ g env σ H x y dx dy dz Q F rx ry e h
  cases dx <;> cases dy <;> simp only [addD] at e <;> first
    | (cases e; rw [rx.toInt, ry.toInt]; exact .inl ⟨_, _, rfl, rfl, ok_same F (.int _) h⟩)
    | (split at e
       · rename_i hl
         cases e
         first
           | (obtain ⟨a, xs, rfl, ra, za, la⟩ := rx.toLst
              obtain ⟨b, ys, rfl, rb, zb, lb⟩ := ry.toLst
              have hz : xs.length + ys.length ≤ sizeLine := by rw [la.length, lb.length]; exact lim_line hl
              exact .inr (.inl ⟨a, b, xs, ys, rfl, rfl, ra, rb, hz, fun p np => ok_lst F (la.append lb) (by rw [List.length_append]; exact hz) np h⟩))
           | (have ta := rx.tupRep
              have tb := ry.tupRep
              obtain ⟨a, xs, rfl, ra, za, la⟩ := rx.toTup
              obtain ⟨b, ys, rfl, rb, zb, lb⟩ := ry.toTup
              have hz : xs.length + ys.length ≤ sizeLine := by rw [la.length, lb.length]; exact lim_line hl
              refine .inr (.inr ⟨a, b, xs, ys, rfl, rfl, sqT_of ra, sqT_of rb, hz, fun ex => ?_, fun _ ey => ?_, fun _ _ p np => ok_tup F (la.append lb) (by rw [List.length_append]; exact hz) np h⟩)
              · subst ex; cases la; exact ok_same F tb h
              · subst ey; cases lb; simp only [List.append_nil] at h; exact ok_same F ta h)
       · cases e)
    | cases e
def addLD : D → D → Option D
  | .list a, .list b => if a.length + b.length ≤ lim then some (.list (a ++ b)) else none
  | _, _ => none
theorem od_addL {K : PySem.W.Frag} : OpD K rCatR addLD .nw := by
  intro κ g env σ H x y dx dy dz Q F rx ry e h
  cases dx <;> cases dy <;> simp only [addLD] at e <;> first
    | (split at e
       · rename_i hl
         cases e
         obtain ⟨a, xs, rfl, ra, za, la⟩ := rx.toLst
         obtain ⟨b, ys, rfl, rb, zb, lb⟩ := ry.toLst
         have hz : xs.length + ys.length ≤ sizeLine := by rw [la.length, lb.length]; exact lim_line hl
         exact ⟨a, b, xs, ys, rfl, rfl, ra, rb, hz, fun p np => ok_lstN F (la.append lb) (by rw [List.length_append]; exact hz) np h⟩
       · cases e)
    | cases e
theorem od_sub {K : PySem.W.Frag} : OpD K (rI0 fun i j => .int (i - j)) subD .fz := by
  intro κ g env σ H x y dx dy dz Q F rx ry e h
  cases dx <;> cases dy <;> simp only [subD] at e <;> first
    | (cases e; rw [rx.toInt, ry.toInt]; exact ⟨_, _, rfl, rfl, ok_same F (.int _) h⟩)
    | cases e
/-- list * int, a list that may be written or read -/
def rMulF : R2 := fun x y H Q => rI CMul (fun i j => .int (i * j)) x y H Q ∨ rRep x y H Q
theorem op_mulF : OpR X (binaryOp .Mult) rMulF := op_mul.or op_rep
theorem od_mul {K : PySem.W.Frag} : OpD K (rI CMul fun i j => .int (i * j)) (fun a b => match a, b with | .int i, .int j => mulD (.int i) (.int j) | _, _ => none) .fz := by
  intro κ g env σ H x y dx dy dz Q F rx ry e h
  cases dx <;> cases dy <;> simp only [mulD] at e <;> first
    | (split at e
       · rename_i hm
         cases e; rw [rx.toInt, ry.toInt]; exact ⟨_, _, rfl, rfl, by simpa [okMul, CMul] using hm, ok_same F (.int _) h⟩
       · cases e)
    | cases e
theorem od_fdiv {K : PySem.W.Frag} : OpD K (rI CDiv fun i j => .int (i / j)) fdivD .fz := by
  intro κ g env σ H x y dx dy dz Q F rx ry e h
  cases dx <;> cases dy <;> simp only [fdivD] at e <;> first
    | (split at e
       · rename_i hm
         cases e; rw [rx.toInt, ry.toInt]; exact ⟨_, _, rfl, rfl, hm, ok_same F (.int _) h⟩
       · cases e)
    | cases e
theorem od_mod {K : PySem.W.Frag} : OpD K (rI (fun _ j => 0 < j) fun i j => .int (i % j)) modD .fz := by
  intro κ g env σ H x y dx dy dz Q F rx ry e h
  cases dx <;> cases dy <;> simp only [modD] at e <;> first
    | (split at e
       · rename_i hm
         cases e; rw [rx.toInt, ry.toInt]; exact ⟨_, _, rfl, rfl, hm, ok_same F (.int _) h⟩
       · cases e)
    | cases e
theorem od_pow {K : PySem.W.Frag} : OpD K (rI CPow fun i j => .int (i ^ j.toNat)) powD .fz := by
  intro κ g env σ H x y dx dy dz Q F rx ry e h
  cases dx <;> cases dy <;> simp only [powD] at e <;> first
    | (split at e
       · rename_i hm
         cases e; rw [rx.toInt, ry.toInt]; exact ⟨_, _, rfl, rfl, hm, ok_same F (.int _) h⟩
       · cases e)
    | cases e
theorem o1_neg {K : PySem.W.Frag} : Op1 K (rU fun i => .int (-i)) negD .fz := by
  intro κ g env σ H x dx dz Q F rx e h
  cases dx <;> simp only [negD] at e <;> first
    | (cases e; rw [rx.toInt]; exact ⟨_, rfl, ok_same F (.int _) h⟩)
    | cases e
theorem od_icmp {K : PySem.W.Frag} (p : Int → Int → Bool) : OpD K (rI0 fun i j => .bl (p i j)) (icmp p) .fz := by
  intro κ g env σ H x y dx dy dz Q F rx ry e h
  cases dx <;> cases dy <;> simp only [icmp] at e <;> first
    | (cases e; rw [rx.toInt, ry.toInt]; exact ⟨_, _, rfl, rfl, ok_same F (.bl _) h⟩)
    | cases e
theorem od_le {K : PySem.W.Frag} : OpD K (rI0 fun i j => .bl (decide (i ≤ j))) leD .fz := od_icmp _
theorem od_gt {K : PySem.W.Frag} : OpD K (rI0 fun i j => .bl (decide (j < i))) gtD .fz := od_icmp _
theorem od_ge {K : PySem.W.Frag} : OpD K (rI0 fun i j => .bl (decide (j ≤ i))) geD .fz := od_icmp _
theorem ints_of {K : PySem.W.Frag} {H : Hp} {S : Addr → Prop} : ∀ {ds : List D} {vs : List V} {ns : List Int}, RepAll K H S vs ds → intsD ds = some ns → vs = ns.map V.int
  | [], _, _, .nil, e => by simp [intsD] at e; subst e; rfl
  | .int i :: ds, _, ns, .cons r t, e => by
    simp only [intsD, Option.map_eq_some_iff] at e
    obtain ⟨ms, e, rfl⟩ := e
    rw [r.toInt, ints_of t e]; rfl
  | .none :: _, _, _, .cons _ _, e => by simp [intsD] at e
  | .bool _ :: _, _, _, .cons _ _, e => by simp [intsD] at e
  | .str _ :: _, _, _, .cons _ _, e => by simp [intsD] at e
  | .list _ :: _, _, _, .cons _ _, e => by simp [intsD] at e
  | .tuple _ :: _, _, _, .cons _ _, e => by simp [intsD] at e
  | .dict _ :: _, _, _, .cons _ _, e => by simp [intsD] at e
def rLtF (K : PySem.W.Frag) : R2 := fun x y H Q => rI0 (fun i j => .bl (decide (i < j))) x y H Q ∨ rLtT K x y H Q
theorem op_ltF (hu : X.A.units < cLine) : OpR X (compareOp .Lt) (rLtF X.K) := op_lt.or (op_ltT hu)
theorem od_lt {K : PySem.W.Frag} : OpD K (rLtF K) ltD .fz := by
  intro κ g env σ H x y dx dy dz Q F rx ry e h
  cases dx <;> cases dy <;> simp only [ltD] at e <;> first
    | (cases e; rw [rx.toInt, ry.toInt]; exact .inl ⟨_, _, rfl, rfl, ok_same F (.bl _) h⟩)
    | (simp only [Option.bind_eq_some_iff, Option.map_eq_some_iff] at e
       obtain ⟨ns, e1, ms, e2, rfl⟩ := e
       obtain ⟨a, xs, rfl, ra, za, la⟩ := rx.toTup
       obtain ⟨b, ys, rfl, rb, zb, lb⟩ := ry.toTup
       have ea := ints_of la e1
       have eb := ints_of lb e2
       subst ea eb
       exact .inr ⟨a, b, ns, ms, rfl, rfl, sqT_of ra, sqT_of rb, ok_same F (.bl _) h⟩)
    | cases e
theorem od_eq {K : PySem.W.Frag} : OpD K (rEqD K) eqD .fz := by
  intro κ g env σ H x y dx dy dz Q F rx ry e h
  unfold eqD at e
  split at e
  · rename_i hh
    cases e
    exact ⟨dx, dy, rx.dp hh.1, ry.dp hh.2, hh.1, hh.2, ok_same F (.bl _) h⟩
  · cases e
theorem od_ne {K : PySem.W.Frag} : OpD K (rNeD K) neD .fz := by
  intro κ g env σ H x y dx dy dz Q F rx ry e h
  unfold neD at e
  split at e
  · rename_i hh
    cases e
    exact ⟨dx, dy, rx.dp hh.1, ry.dp hh.2, hh.1, hh.2, ok_same F (.bl _) h⟩
  · cases e
/-- in, a list or a tuple of data -/
def rInF (K : PySem.W.Frag) : R2 := fun x y H Q => ∃ d c ds, Dp K H x d ∧ Dp K H y c ∧ seqD c = some ds ∧ SeqAt.shaped d = true ∧ SeqAt.shaped c = true ∧ Q (.bl (ds.any fun z => PyData.eqv z d)) H
def rNotInF (K : PySem.W.Frag) : R2 := fun x y H Q => ∃ d c ds, Dp K H x d ∧ Dp K H y c ∧ seqD c = some ds ∧ SeqAt.shaped d = true ∧ SeqAt.shaped c = true ∧ Q (.bl (!(ds.any fun z => PyData.eqv z d))) H
theorem op_inF (hu : X.A.units + 65 < cLine) : OpR X (compareOp .In) (rInF X.K) := by
  intro pins s σ H x y v u Q I rx ry h
  obtain ⟨d, c, ds, hd, he, ec, sd, se, q⟩ := h
  obtain ⟨as, r1⟩ := Dp.reads I d x v hd rx
  obtain ⟨bs, r2⟩ := Dp.reads I c y u he ry
  cases c <;> simp only [seqD] at ec <;> first
    | (cases ec; exact SeqAt.in_list_reads r2 r1 (SeqAt.canLay_of_shaped se) (SeqAt.canLay_of_shaped sd) (room_in_shaped sd hu) ⟨.bl _, H, I, rfl, q⟩)
    | (cases ec; exact SeqAt.in_tuple_reads r2 r1 (SeqAt.canLay_of_shaped se) (SeqAt.canLay_of_shaped sd) (room_in_shaped sd hu) ⟨.bl _, H, I, rfl, q⟩)
    | (simp [SeqAt.shaped, PyData.canLay0] at se; done)
    | cases ec
theorem op_notInF (hu : X.A.units + 65 < cLine) : OpR X (compareOp .NotIn) (rNotInF X.K) := by
  intro pins s σ H x y v u Q I rx ry h
  obtain ⟨d, c, ds, hd, he, ec, sd, se, q⟩ := h
  obtain ⟨as, r1⟩ := Dp.reads I d x v hd rx
  obtain ⟨bs, r2⟩ := Dp.reads I c y u he ry
  cases c <;> simp only [seqD] at ec <;> first
    | (cases ec; exact SeqAt.notIn_list_reads r2 r1 (SeqAt.canLay_of_shaped se) (SeqAt.canLay_of_shaped sd) (room_in_shaped sd hu) ⟨.bl _, H, I, rfl, q⟩)
    | (cases ec; exact SeqAt.notIn_tuple_reads r2 r1 (SeqAt.canLay_of_shaped se) (SeqAt.canLay_of_shaped sd) (room_in_shaped sd hu) ⟨.bl _, H, I, rfl, q⟩)
    | (simp [SeqAt.shaped, PyData.canLay0] at se; done)
    | cases ec
theorem od_in {K : PySem.W.Frag} : OpD K (rInF K) inD .fz := by
  intro κ g env σ H x y dx dy dz Q F rx ry e h
  unfold inD at e
  split at e
  · rename_i ys ey
    split at e
    · rename_i hh
      cases e
      exact ⟨dx, dy, ys, rx.dp hh.1, ry.dp hh.2, ey, hh.1, hh.2, ok_same F (.bl _) h⟩
    · cases e
  · cases e
theorem od_notIn {K : PySem.W.Frag} : OpD K (rNotInF K) notInD .fz := by
  intro κ g env σ H x y dx dy dz Q F rx ry e h
  unfold notInD at e
  split at e
  · rename_i ys ey
    split at e
    · rename_i hh
      cases e
      exact ⟨dx, dy, ys, rx.dp hh.1, ry.dp hh.2, ey, hh.1, hh.2, ok_same F (.bl _) h⟩
    · cases e
  · cases e
/-! is None, is True -/
def isD : D → D → Option D
  | x, .none => isNoneD x
  | .bool a, .bool b => some (.bool (decide (a = b)))
  | _, _ => none
def isNotD : D → D → Option D
  | x, .none => notNoneD x
  | .bool a, .bool b => some (.bool (!decide (a = b)))
  | _, _ => none
theorem non_iff {K : PySem.W.Frag} {H : Hp} {S : Addr → Prop} {v : V} {d : D} (r : RdB K H S v d) : isNoneD d = some (.bool (decide (v = .non))) ∧ notNoneD d = some (.bool (!decide (v = .non))) := by
  rcases r with r | ⟨a, rfl, r⟩
  · cases r <;> simp [isNoneD, notNoneD]
  · cases r <;> simp [isNoneD, notNoneD]
def rIsF : R2 := fun x y H Q => (y = .non ∧ Q (.bl (decide (x = .non))) H) ∨ rIsB x y H Q
def rIsNotF : R2 := fun x y H Q => (y = .non ∧ Q (.bl (!decide (x = .non))) H) ∨ rNotB x y H Q
theorem op_isF : OpR X (compareOp .Is) rIsF := op_isN.or op_isBl
theorem op_isNotF : OpR X (compareOp .IsNot) rIsNotF := op_notN.or op_notBl
theorem od_is {K : PySem.W.Frag} : OpD K rIsF isD .fz := by
  intro κ g env σ H x y dx dy dz Q F rx ry e h
  have hn := (non_iff rx).1
  cases dy <;> first
    | (simp only [isD] at e; rw [hn] at e; cases e; exact .inl ⟨ry.toNon, ok_same F (.bl _) h⟩)
    | (cases dx <;> simp only [isD] at e <;> first
        | (cases e; rw [rx.toBl, ry.toBl]; exact .inr ⟨_, _, rfl, rfl, ok_same F (.bl _) h⟩)
        | cases e)
theorem od_isNot {K : PySem.W.Frag} : OpD K rIsNotF isNotD .fz := by
  intro κ g env σ H x y dx dy dz Q F rx ry e h
  have hn := (non_iff rx).2
  cases dy <;> first
    | (simp only [isNotD] at e; rw [hn] at e; cases e; exact .inl ⟨ry.toNon, ok_same F (.bl _) h⟩)
    | (cases dx <;> simp only [isNotD] at e <;> first
        | (cases e; rw [rx.toBl, ry.toBl]; exact .inr ⟨_, _, rfl, rfl, ok_same F (.bl _) h⟩)
        | cases e)
/-! items and slices -/
theorem ixD_dict {kvs : List (D × D)} {y z : D} (h : ixD (.dict kvs) y = some z) : ∃ xs i, kvs = [(.none, .tuple xs)] ∧ y = .int i ∧ (ixN xs.length i).bind (fun j => xs[j]?) = some z := by
  unfold ixD at h
  split at h
  · rename_i i e; cases e
  · rename_i i e; cases e
  · rename_i i e; cases e; exact ⟨_, _, rfl, rfl, h⟩
  · cases h
theorem od_ix {K : PySem.W.Frag} : OpD K (rIx K) ixD .fz := by
  intro κ g env σ H x y dx dy dz Q F rx ry e h
  by_cases hd : ∃ kvs, dx = .dict kvs
  · obtain ⟨kvs, rfl⟩ := hd
    obtain ⟨ds, i, rfl, rfl, e⟩ := ixD_dict e
    obtain ⟨j, ej, e⟩ := Option.bind_eq_some_iff.mp e
    rw [ry.toInt]
    obtain ⟨a, xs, rfl, ra, za, la⟩ := rx.toTupO (d := xtD ds) rfl
    obtain ⟨v, ev, rv⟩ := la.get e
    exact .inr (.inl ⟨a, xs, _, v, rfl, rfl, sqT_of ra, by unfold atI; rw [la.length]; show (G7.ixN _ _).bind _ = _; rw [ej]; exact ev, ok_same F rv h⟩)
  cases dx <;> cases dy <;> simp only [ixD] at e <;> first
    | (simp only [Option.bind_eq_some_iff] at e
       obtain ⟨j, ej, e⟩ := e
       rw [ry.toInt]
       first
         | (obtain ⟨a, xs, rfl, ra, za, la⟩ := rx.toLst
            obtain ⟨v, ev, rv⟩ := la.get e
            exact .inl ⟨a, xs, _, v, rfl, rfl, .inl ra, by unfold atI; rw [la.length]; show (G7.ixN _ _).bind _ = _; rw [ej]; exact ev, ok_same F rv h⟩)
         | (obtain ⟨a, xs, rfl, ra, za, la⟩ := rx.toTup
            obtain ⟨v, ev, rv⟩ := la.get e
            exact .inr (.inl ⟨a, xs, _, v, rfl, rfl, sqT_of ra, by unfold atI; rw [la.length]; show (G7.ixN _ _).bind _ = _; rw [ej]; exact ev, ok_same F rv h⟩)))
    | (exact absurd ⟨_, rfl⟩ hd)
    | cases e
theorem cut_rep {K : PySem.W.Frag} {H : Hp} {S : Addr → Prop} {xs : List V} {ds : List D} (la : RepAll K H S xs ds) (lo hi : Option Int) : RepAll K H S (cutV xs lo hi) (cut ds lo hi) := by
  unfold cutV cut
  rw [la.length]
  exact (la.drop _).take _
theorem cut_whole {n : Nat} {ds : List D} {lo hi : Option Int} (e : n = ds.length) (h1 : HT.sIx n 0 lo = 0) (h2 : HT.sIx n n hi = n) : cut ds lo hi = ds := by
  unfold cut
  rw [← e, h1, h2, e]
  simp
def rSlF (K : PySem.W.Frag) : V → Option Int → Option Int → Hp → VK → Prop := fun x lo hi H Q => rSlL K x lo hi H Q ∨ rSlA K x lo hi H Q
theorem sl_F : SlR X (rSlF X.K) := sl_list.or sl_tupA
def SlD (K : PySem.W.Frag) (r : V → Option Int → Option Int → Hp → VK → Prop) (f : D → Option Int → Option Int → Option D) (k : RK) : Prop := ∀ (κ : List SK) (g : Rg) (env : En) (σ : St) (H : Hp) (x : V) (lo hi : Option Int) (dx dz : D) (Q : VK), Frm K κ g env σ H → RdB K H g.own x dx → f dx lo hi = some dz →
  (∀ v H' g', Frm K κ g' env σ H' → EStep [] g g' H H' → Res K g' k H H' v dz → Q v H') → r x lo hi H Q
theorem slD_dict {kvs : List (D × D)} {lo hi : Option Int} {z : D} (h : slD (.dict kvs) lo hi = some z) : ∃ xs, kvs = [(.none, .tuple xs)] ∧ z = if HT.sIx xs.length 0 lo = 0 ∧ HT.sIx xs.length xs.length hi = xs.length then xtD xs else .tuple (cut xs lo hi) := by
  unfold slD at h
  split at h
  · rename_i e; cases e
  · rename_i e; cases e
  · rename_i e; cases e; cases h; exact ⟨_, rfl, rfl⟩
  · cases h
theorem sd_F {K : PySem.W.Frag} : SlD K (rSlF K) slD .fz := by
  intro κ g env σ H x lo hi dx dz Q F rx e h
  by_cases hd : ∃ kvs, dx = .dict kvs
  · obtain ⟨kvs, rfl⟩ := hd
    obtain ⟨ds, rfl, rfl⟩ := slD_dict e
    have tr := RdB.xtRep (ds := ds) rx
    obtain ⟨a, xs, rfl, ra, za, la⟩ := rx.toTupO (d := xtD ds) rfl
    refine .inr ⟨a, xs, rfl, sqT_of ra, fun w => ?_, fun w p np => ?_⟩
    · rw [la.length] at w
      rw [if_pos w] at h
      exact ok_same F tr h
    · rw [la.length] at w
      rw [if_neg w] at h
      exact ok_tup F (cut_rep la lo hi) (Nat.le_trans (cutV_length _ _ _) za) np h
  cases dx <;> simp only [slD] at e <;> first
    | (cases e
       first
         | (obtain ⟨a, xs, rfl, ra, za, la⟩ := rx.toLst
            exact .inl ⟨a, xs, rfl, .inl ra, fun p np => ok_lst F (cut_rep la lo hi) (Nat.le_trans (cutV_length _ _ _) za) np h⟩)
         | (have tr := rx.tupRep
            obtain ⟨a, xs, rfl, ra, za, la⟩ := rx.toTup
            refine .inr ⟨a, xs, rfl, sqT_of ra, fun w => ?_, fun _ p np => ok_tup F (cut_rep la lo hi) (Nat.le_trans (cutV_length _ _ _) za) np h⟩
            rw [cut_whole la.length w.1 w.2] at h
            exact ok_same F tr h))
    | (exact absurd ⟨_, rfl⟩ hd)
    | cases e
def slLD : D → Option Int → Option Int → Option D
  | .list xs, lo, hi => some (.list (cut xs lo hi))
  | _, _, _ => none
theorem sd_L {K : PySem.W.Frag} : SlD K (rSlL K) slLD .nw := by
  intro κ g env σ H x lo hi dx dz Q F rx e h
  cases dx <;> simp only [slLD] at e <;> first
    | (cases e
       obtain ⟨a, xs, rfl, ra, za, la⟩ := rx.toLst
       exact ⟨a, xs, rfl, .inl ra, fun p np => ok_lstN F (cut_rep la lo hi) (Nat.le_trans (cutV_length _ _ _) za) np h⟩)
    | cases e
end
end G7

set_option maxRecDepth 100000
/-! built-ins, walks, methods -/
namespace G7
open PySem PySem.Spec PyProof.Rows L2

/-! sorting -/
def insI (x : Int) : List Int → List Int
  | [] => [x]
  | y :: r => if x ≤ y then x :: y :: r else y :: insI x r
def isort : List Int → List Int
  | [] => []
  | x :: r => insI x (isort r)
theorem insI_perm (x : Int) : ∀ l : List Int, (insI x l).Perm (x :: l)
  | [] => .refl _
  | y :: r => by
    unfold insI
    split
    · exact .refl _
    · exact ((insI_perm x r).cons y).trans (.swap x y r)
theorem isort_perm : ∀ l : List Int, (isort l).Perm l
  | [] => .refl _
  | x :: r => (insI_perm x _).trans ((isort_perm r).cons x)
theorem insI_sorted (x : Int) : ∀ l : List Int, l.Pairwise (· ≤ ·) → (insI x l).Pairwise (· ≤ ·)
  | [], _ => by simp [insI]
  | y :: r, h => by
    unfold insI
    have h' := List.pairwise_cons.mp h
    split
    · rename_i c
      refine List.pairwise_cons.mpr ⟨fun z hz => ?_, h⟩
      rcases List.mem_cons.mp hz with rfl | hz
      · exact c
      · exact Int.le_trans c (h'.1 z hz)
    · rename_i c
      refine List.pairwise_cons.mpr ⟨fun z hz => ?_, insI_sorted x r h'.2⟩
      rcases List.mem_cons.mp ((insI_perm x r).mem_iff.mp hz) with rfl | hz
      · omega
      · exact h'.1 z hz
theorem isort_sorted : ∀ l : List Int, (isort l).Pairwise (· ≤ ·)
  | [] => .nil
  | x :: r => insI_sorted x _ (isort_sorted r)
theorem sorted_one : ∀ {l m : List Int}, l.Perm m → l.Pairwise (· ≤ ·) → m.Pairwise (· ≤ ·) → l = m
  | [], m, p, _, _ => (p.symm.eq_nil).symm
  | x :: l, [], p, _, _ => absurd p.eq_nil (by simp)
  | x :: l, y :: m, p, hl, hm => by
    have hl' := List.pairwise_cons.mp hl
    have hm' := List.pairwise_cons.mp hm
    have e : x = y := by
      have h1 : x ∈ y :: m := p.mem_iff.mp (by simp)
      have h2 : y ∈ x :: l := p.mem_iff.mpr (by simp)
      rcases List.mem_cons.mp h1 with e | h1
      · exact e
      · rcases List.mem_cons.mp h2 with e | h2
        · exact e.symm
        · have a := hm'.1 x h1
          have b := hl'.1 y h2
          omega
    subst e
    rw [sorted_one (p.cons_inv) hl'.2 hm'.2]
def sortedD : List D → Option D
  | [.list xs] => (intsD xs).map fun ns => .list ((isort ns).map .int)
  | _ => none
def sumD : List D → Option D
  | [.list xs] => (intsD xs).map fun ns => .int ns.sum
  | _ => none
def maxI : List Int → Option Int
  | [] => none
  | x :: r => some (r.foldl max x)
def minI : List Int → Option Int
  | [] => none
  | x :: r => some (r.foldl min x)
theorem foldl_max (x : Int) : ∀ r : List Int, (r.foldl max x) ∈ x :: r ∧ ∀ y ∈ x :: r, y ≤ r.foldl max x
  | [] => by simp
  | y :: r => by
    obtain ⟨h1, h2⟩ := foldl_max (max x y) r
    refine ⟨?_, fun z hz => ?_⟩
    · rcases List.mem_cons.mp h1 with h1 | h1
      · show List.foldl max (max x y) r ∈ _
        rw [h1]
        rcases Int.le_total x y with c | c
        · rw [Int.max_eq_right c]; simp
        · rw [Int.max_eq_left c]; simp
      · exact List.mem_cons_of_mem _ (List.mem_cons_of_mem _ h1)
    · show z ≤ List.foldl max (max x y) r
      have hm := h2 (max x y) (by simp)
      rcases List.mem_cons.mp hz with rfl | hz
      · exact Int.le_trans (Int.le_max_left _ _) hm
      · rcases List.mem_cons.mp hz with rfl | hz
        · exact Int.le_trans (Int.le_max_right _ _) hm
        · exact h2 z (List.mem_cons_of_mem _ hz)
theorem foldl_min (x : Int) : ∀ r : List Int, (r.foldl min x) ∈ x :: r ∧ ∀ y ∈ x :: r, r.foldl min x ≤ y
  | [] => by simp
  | y :: r => by
    obtain ⟨h1, h2⟩ := foldl_min (min x y) r
    refine ⟨?_, fun z hz => ?_⟩
    · rcases List.mem_cons.mp h1 with h1 | h1
      · show List.foldl min (min x y) r ∈ _
        rw [h1]
        rcases Int.le_total x y with c | c
        · rw [Int.min_eq_left c]; simp
        · rw [Int.min_eq_right c]; simp
      · exact List.mem_cons_of_mem _ (List.mem_cons_of_mem _ h1)
    · show List.foldl min (min x y) r ≤ z
      have hm := h2 (min x y) (by simp)
      rcases List.mem_cons.mp hz with rfl | hz
      · exact Int.le_trans hm (Int.min_le_left _ _)
      · rcases List.mem_cons.mp hz with rfl | hz
        · exact Int.le_trans hm (Int.min_le_right _ _)
        · exact h2 z (List.mem_cons_of_mem _ hz)
def maxD : List D → Option D
  | [.list xs] => (intsD xs).bind fun ns => (maxI ns).map .int
  | _ => none
def minD : List D → Option D
  | [.list xs] => (intsD xs).bind fun ns => (minI ns).map .int
  | _ => none
section
variable {K : PySem.W.Frag} {H : Hp} {S : Addr → Prop}
theorem rda1 {vs : List V} {d : D} (h : RdA K H S vs [d]) : ∃ v, vs = [v] ∧ RdB K H S v d := by
  cases vs with
  | nil => exact h.elim
  | cons v r => cases r with
    | nil => exact ⟨v, rfl, h.1⟩
    | cons _ _ => exact h.2.elim
theorem rda2 {vs : List V} {d e : D} (h : RdA K H S vs [d, e]) : ∃ v w, vs = [v, w] ∧ RdB K H S v d ∧ RdB K H S w e := by
  cases vs with
  | nil => exact h.elim
  | cons v r =>
    obtain ⟨w, rfl, q⟩ := rda1 h.2
    exact ⟨v, w, rfl, h.1, q⟩
theorem repInts : ∀ ns : List Int, RepAll K H S (ns.map V.int) (ns.map .int)
  | [] => .nil
  | n :: ns => .cons (.int n) (repInts ns)
theorem bools_of : ∀ {ds : List D} {vs : List V} {ns : List Bool}, RepAll K H S vs ds → boolsD ds = some ns → vs = ns.map V.bl
  | [], _, _, .nil, e => by simp [boolsD] at e; subst e; rfl
  | .bool i :: ds, _, ns, .cons r t, e => by
    simp only [boolsD, Option.map_eq_some_iff] at e
    obtain ⟨ms, e, rfl⟩ := e
    rw [r.toBl, bools_of t e]; rfl
  | .none :: _, _, _, .cons _ _, e => by simp [boolsD] at e
  | .int _ :: _, _, _, .cons _ _, e => by simp [boolsD] at e
  | .str _ :: _, _, _, .cons _ _, e => by simp [boolsD] at e
  | .list _ :: _, _, _, .cons _ _, e => by simp [boolsD] at e
  | .tuple _ :: _, _, _, .cons _ _, e => by simp [boolsD] at e
  | .dict _ :: _, _, _, .cons _ _, e => by simp [boolsD] at e
end
section
variable {X : Cx} {K : PySem.W.Frag}
def rLen (K : PySem.W.Frag) : List V → Hp → VK → Prop := fun xs H Q => ∃ p ys, xs = [.ref p] ∧ (SqL K H p ys ∨ SqT K H p ys) ∧ Q (.int ys.length) H
theorem bd_len : BlD K (rLen K) lenD .fz := by
  intro κ g env σ H vs ds dz Q F r e h
  match ds, e with
  | [.list xs], e =>
    cases e
    obtain ⟨v, rfl, rx⟩ := rda1 r
    obtain ⟨a, ys, rfl, ra, za, la⟩ := rx.toLst
    exact ⟨a, ys, rfl, .inl (.inl ra), by rw [la.length]; exact ok_same F (.int _) h⟩
  | [.tuple xs], e =>
    cases e
    obtain ⟨v, rfl, rx⟩ := rda1 r
    obtain ⟨a, ys, rfl, ra, za, la⟩ := rx.toTup
    exact ⟨a, ys, rfl, .inr (sqT_of ra), by rw [la.length]; exact ok_same F (.int _) h⟩
  | [.dict [(.none, .tuple xs)]], e =>
    cases e
    obtain ⟨v, rfl, rx⟩ := rda1 r
    obtain ⟨a, ys, rfl, ra, za, la⟩ := rx.toTupO (d := xtD xs) rfl
    exact ⟨a, ys, rfl, .inr (sqT_of ra), by rw [la.length]; exact ok_same F (.int _) h⟩
def rTupOf (K : PySem.W.Frag) : List V → Hp → VK → Prop := fun xs H Q => ∃ p ys, xs = [.ref p] ∧ ((SqL K H p ys ∧ ∀ l, H l = none → Q (.ref l) (upd H l (.tup ys))) ∨ (SqT K H p ys ∧ Q (.ref p) H))
theorem bd_tup : BlD K (rTupOf K) tupD .fz := by
  intro κ g env σ H vs ds dz Q F r e h
  match ds, e with
  | [.list xs], e =>
    cases e
    obtain ⟨v, rfl, rx⟩ := rda1 r
    obtain ⟨a, ys, rfl, ra, za, la⟩ := rx.toLst
    exact ⟨a, ys, rfl, .inl ⟨.inl ra, fun l nl => ok_tup F la za nl h⟩⟩
  | [.tuple xs], e =>
    cases e
    obtain ⟨v, rfl, rx⟩ := rda1 r
    have t := rx.tupRep
    obtain ⟨a, ys, rfl, ra, za, la⟩ := rx.toTup
    exact ⟨a, ys, rfl, .inr ⟨sqT_of ra, ok_same F t h⟩⟩
  | [.dict [(.none, .tuple xs)]], e =>
    cases e
    obtain ⟨v, rfl, rx⟩ := rda1 r
    have t := RdB.xtRep (ds := xs) rx
    obtain ⟨a, ys, rfl, ra, za, la⟩ := rx.toTupO (d := xtD xs) rfl
    exact ⟨a, ys, rfl, .inr ⟨sqT_of ra, ok_same F t h⟩⟩
def rLstOf (K : PySem.W.Frag) : List V → Hp → VK → Prop := fun xs H Q => ∃ p ys, xs = [.ref p] ∧ (SqL K H p ys ∨ SqT K H p ys) ∧ ∀ l, H l = none → Q (.ref l) (upd H l (.lst ys))
theorem bd_lst : BlD K (rLstOf K) lstD .nw := by
  intro κ g env σ H vs ds dz Q F r e h
  match ds, e with
  | [.list xs], e =>
    cases e
    obtain ⟨v, rfl, rx⟩ := rda1 r
    obtain ⟨a, ys, rfl, ra, za, la⟩ := rx.toLst
    exact ⟨a, ys, rfl, .inl (.inl ra), fun l nl => ok_lstN F la za nl h⟩
  | [.tuple xs], e =>
    cases e
    obtain ⟨v, rfl, rx⟩ := rda1 r
    obtain ⟨a, ys, rfl, ra, za, la⟩ := rx.toTup
    exact ⟨a, ys, rfl, .inr (sqT_of ra), fun l nl => ok_lstN F la za nl h⟩
  | [.dict [(.none, .tuple xs)]], e =>
    cases e
    obtain ⟨v, rfl, rx⟩ := rda1 r
    obtain ⟨a, ys, rfl, ra, za, la⟩ := rx.toTupO (d := xtD xs) rfl
    exact ⟨a, ys, rfl, .inr (sqT_of ra), fun l nl => ok_lstN F la za nl h⟩
theorem bd_max2 : BlD K (fun xs H Q => ∃ i j, xs = [.int i, .int j] ∧ Q (.int (if j > i then j else i)) H) max2D .fz := by
  intro κ g env σ H vs ds dz Q F r e h
  match ds, e with
  | [.int i, .int j], e =>
    cases e
    obtain ⟨v, w, rfl, rx, ry⟩ := rda2 r
    rw [rx.toInt, ry.toInt]
    exact ⟨i, j, rfl, ok_same F (.int _) h⟩
theorem bd_min2 : BlD K (fun xs H Q => ∃ i j, xs = [.int i, .int j] ∧ Q (.int (if j < i then j else i)) H) min2D .fz := by
  intro κ g env σ H vs ds dz Q F r e h
  match ds, e with
  | [.int i, .int j], e =>
    cases e
    obtain ⟨v, w, rfl, rx, ry⟩ := rda2 r
    rw [rx.toInt, ry.toInt]
    exact ⟨i, j, rfl, ok_same F (.int _) h⟩
theorem bd_int : BlD K (fun xs H Q => (∃ i, xs = [.int i] ∧ Q (.int i) H) ∨ ∃ k, xs = [.bl k] ∧ Q (.int (if k then 1 else 0)) H) intD .fz := by
  intro κ g env σ H vs ds dz Q F r e h
  match ds, e with
  | [.int i], e =>
    cases e
    obtain ⟨v, rfl, rx⟩ := rda1 r
    rw [rx.toInt]
    exact .inl ⟨i, rfl, ok_same F (.int _) h⟩
  | [.bool i], e =>
    cases e
    obtain ⟨v, rfl, rx⟩ := rda1 r
    rw [rx.toBl]
    exact .inr ⟨i, rfl, ok_same F (.int _) h⟩
theorem bd_abs : BlD K (fun xs H Q => ∃ i, xs = [.int i] ∧ Q (.int (if i < 0 then -i else i)) H) absD .fz := by
  intro κ g env σ H vs ds dz Q F r e h
  match ds, e with
  | [.int i], e =>
    cases e
    obtain ⟨v, rfl, rx⟩ := rda1 r
    rw [rx.toInt]
    exact ⟨i, rfl, ok_same F (.int _) h⟩
theorem bd_all : BlD K (rAll K) allD .fz := by
  intro κ g env σ H vs ds dz Q F r e h
  match ds, e with
  | [.list xs], e =>
    simp only [allD, Option.map_eq_some_iff] at e
    obtain ⟨bs, e2, rfl⟩ := e
    obtain ⟨v, rfl, rx⟩ := rda1 r
    obtain ⟨a, ys, rfl, ra, za, la⟩ := rx.toLst
    have eb := bools_of la e2
    subst eb
    exact ⟨a, bs, rfl, .inl ra, ok_same F (.bl _) h⟩
theorem bd_any : BlD K (rAny K) anyD .fz := by
  intro κ g env σ H vs ds dz Q F r e h
  match ds, e with
  | [.list xs], e =>
    simp only [anyD, Option.map_eq_some_iff] at e
    obtain ⟨bs, e2, rfl⟩ := e
    obtain ⟨v, rfl, rx⟩ := rda1 r
    obtain ⟨a, ys, rfl, ra, za, la⟩ := rx.toLst
    have eb := bools_of la e2
    subst eb
    exact ⟨a, bs, rfl, .inl ra, ok_same F (.bl _) h⟩
theorem bd_sum : BlD K (rSum K) sumD .fz := by
  intro κ g env σ H vs ds dz Q F r e h
  match ds, e with
  | [.list xs], e =>
    simp only [sumD, Option.map_eq_some_iff] at e
    obtain ⟨bs, e2, rfl⟩ := e
    obtain ⟨v, rfl, rx⟩ := rda1 r
    obtain ⟨a, ys, rfl, ra, za, la⟩ := rx.toLst
    have eb := ints_of la e2
    subst eb
    exact ⟨a, bs, rfl, .inl ra, ok_same F (.int _) h⟩
theorem bd_max : BlD K (rMax K) maxD .fz := by
  intro κ g env σ H vs ds dz Q F r e h
  match ds, e with
  | [.list xs], e =>
    simp only [maxD, Option.bind_eq_some_iff, Option.map_eq_some_iff] at e
    obtain ⟨ns, e2, m, em, rfl⟩ := e
    obtain ⟨v, rfl, rx⟩ := rda1 r
    obtain ⟨a, ys, rfl, ra, za, la⟩ := rx.toLst
    have eb := ints_of la e2
    subst eb
    cases ns with
    | nil => simp [maxI] at em
    | cons x t =>
      obtain ⟨h1, h2⟩ := foldl_max x t
      simp only [maxI, Option.some.injEq] at em
      rw [em] at h1 h2
      refine ⟨a, _, rfl, .inl ra, by simp, fun m' hm hle => ?_⟩
      have : m' = m := Int.le_antisymm (h2 m' hm) (hle m h1)
      subst this
      exact ok_same F (.int _) h
theorem bd_min : BlD K (rMin K) minD .fz := by
  intro κ g env σ H vs ds dz Q F r e h
  match ds, e with
  | [.list xs], e =>
    simp only [minD, Option.bind_eq_some_iff, Option.map_eq_some_iff] at e
    obtain ⟨ns, e2, m, em, rfl⟩ := e
    obtain ⟨v, rfl, rx⟩ := rda1 r
    obtain ⟨a, ys, rfl, ra, za, la⟩ := rx.toLst
    have eb := ints_of la e2
    subst eb
    cases ns with
    | nil => simp [minI] at em
    | cons x t =>
      obtain ⟨h1, h2⟩ := foldl_min x t
      simp only [minI, Option.some.injEq] at em
      rw [em] at h1 h2
      refine ⟨a, _, rfl, .inl ra, by simp, fun m' hm hle => ?_⟩
      have : m' = m := Int.le_antisymm (hle m h1) (h2 m' hm)
      subst this
      exact ok_same F (.int _) h
theorem bd_sorted : BlD K (rSortedI K) sortedD .nw := by
  intro κ g env σ H vs ds dz Q F r e h
  match ds, e with
  | [.list xs], e =>
    simp only [sortedD, Option.map_eq_some_iff] at e
    obtain ⟨ns, e2, rfl⟩ := e
    obtain ⟨v, rfl, rx⟩ := rda1 r
    obtain ⟨a, ys, rfl, ra, za, la⟩ := rx.toLst
    have eb := ints_of la e2
    subst eb
    refine ⟨a, ns, rfl, .inl ra, fun ns' p pm srt np => ?_⟩
    have : ns' = isort ns := sorted_one (pm.trans (isort_perm ns).symm) srt (isort_sorted ns)
    subst this
    exact ok_lstN F (repInts _) (by simpa [(isort_perm ns).length_eq] using za) np h
/-! isinstance -/
def tyD : D → String
  | .none => "NoneType"
  | .bool _ => "bool"
  | .int _ => "int"
  | .str _ => "str"
  | .list _ => "list"
  | .tuple _ => "tuple"
  | .dict [(.none, .tuple _)] => "tuple"
  | .dict _ => "dict"
def isT (T t : String) : Bool := t == T || (t == "bool" && T == "int")
def isTD (T : String) (d : D) : Option D := some (.bool (isT T (tyD d)))
theorem tyD_dK (kvs : List (Key × V)) (ds : List D) : tyD (.dict ((kvs.map fun p => kD p.1).zip ds)) = "dict" := by
  cases kvs with
  | nil => rfl
  | cons p kvs =>
    obtain ⟨k, v⟩ := p
    cases ds with
    | nil => rfl
    | cons d ds => cases k <;> rfl
theorem tyD_dT (kvs : List (List Key × V)) (ds : List D) : tyD (.dict ((.none, .none) :: (kvs.map fun p => tD p.1).zip ds)) = "dict" := rfl
theorem RdB.tyX {H : Hp} {S : Addr → Prop} {v : V} {d : D} (r : RdB K H S v d) : TyX K H v (.type (tyD d)) := by
  rcases r with r | ⟨a, rfl, r⟩
  · cases r with
    | non => exact .base .non
    | bl b => exact .base (.bl b)
    | int i => exact .base (.int i)
    | str x => exact .base (.str x)
    | lst n r z al => rcases r with r | ⟨o, r⟩; exact .base (.lst r); exact .base (.frz r)
    | tup n r z al => exact .base (.tup r)
    | dK n r al => rw [tyD_dK]; exact .base (.dK r)
    | dT n r al => rw [tyD_dT]; exact .base (.dT r)
    | xt n r e z al => exact .fTuple r
  · cases r with
    | lst r z al => rcases r with r | ⟨o, r⟩; exact .base (.lst r); exact .base (.frz r)
    | dK r al => rw [tyD_dK]; exact .base (.dK r)
    | dT r al => rw [tyD_dT]; exact .base (.dT r)
theorem se_isi {κ : List SK} {M : List Nat} {k : RK} {w : WE} {T : String} {a : Expr} {x : Str} {p p2 pos : Pos} (hT : (["NoneType", "bool", "int", "str", "list", "tuple", "dict"].all fun t => kitB t T == some (isT T t)) = true) (ha : SE X κ M k a w) (hg : Gl X "isinstance") (hm : X.mg "isinstance" = none)
    (hgT : Gl X x) (hmT : X.mg x = none) (hvT : bootBuiltins x = some (.type T)) (pa : k.rdable = true := by rfl) (hn : x ≠ "__name__" := by decide) (hdb : (x == ("__debug__" : Str)) = false := by decide)
    (he : starEach [a, .Name x p2] X.env = (false, eval a X.env) :: starEach [.Name x p2] X.env := by rfl) (he2 : starEach [.Name x p2] X.env = (false, eval (.Name x p2) X.env) :: starEach [] X.env := by rfl) (hpl : (backTo pos (starEach [.Name x p2] X.env)).any (·.1) = false := by rfl) :
    SE X κ M .fz (.Call (.Name "isinstance" p) [a, .Name x p2] [] pos) (wOp1 (isTD T) w) :=
  SE.of (pe_callB (id := "isinstance") call_isi hg hm (by decide +kernel) (pa_cons ha (pa_cons (pe_bltn (v := .ty T) hgT hmT hvT rfl hn hdb) pa_nil he2) he) (by decide) (by decide) he hpl) fun σ H Q ⟨g, env, W, F, hw, post⟩ =>
    ⟨g, env, _, F, hw, fun v H1 g1 e1 d F1 s1 r1 ⟨z, ez, w1⟩ => by
      cases ez
      refine ⟨v, .ty T, _, .type T, isT T (tyD d), rfl, .ty T, (r1.rdb pa).tyX, kit_ty ?_, post _ H1 g1 e1 _ F1 s1 (.bl _) w1⟩
      have := List.all_eq_true.mp hT (tyD d) (by unfold tyD; split <;> simp)
      exact beq_iff_eq.mp this⟩
/-! slices -/
def cO (K : PySem.W.Frag) (κ : List SK) (M : List Nat) (w : WO) : TO := fun σ H Q => ∃ g env W, Frm K κ g env σ H ∧ w env W ∧ ∀ o H' g' env', Frm K κ g' env' σ H' → EStep M g g' H H' → W o env' → Q o H'
def SO (X : Cx) (κ : List SK) (M : List Nat) (e : Option Expr) (w : WO) : Prop := PO X e (cO X.K κ M w)
theorem SO.of {κ : List SK} {M : List Nat} {e : Option Expr} {w : WO} {t : TO} (h : PO X e t) (i : ∀ σ H Q, cO X.K κ M w σ H Q → t σ H Q) : SO X κ M e w := ⟨fun pins s σ H Q I q => h.run pins s σ H Q I (i σ H Q q)⟩
theorem so_n {κ : List SK} {M : List Nat} : SO X κ M none woN := SO.of po_none fun σ H Q ⟨g, env, W, F, hw, post⟩ => post none H g env F .refl hw
theorem so_s {κ : List SK} {M : List Nat} {k : RK} {e : Expr} {w : WE} (h : SE X κ M k e w) (pa : k.rdable = true := by rfl) : SO X κ M (some e) (woS w) :=
  SO.of (po_some h) fun σ H Q ⟨g, env, W, F, hw, post⟩ => ⟨g, env, _, F, hw, fun v H1 g1 e1 d F1 s1 r1 ⟨i, e, w1⟩ => by
    subst e
    exact ⟨i, (r1.rdb pa).toInt, post (some i) H1 g1 e1 F1 s1 w1⟩⟩
theorem se_sl {κ : List SK} {M : List Nat} {k ka : RK} {a : Expr} {lo hi : Option Expr} {wa : WE} {wl wh : WO} {r : V → Option Int → Option Int → Hp → VK → Prop} {f : D → Option Int → Option Int → Option D} {p2 pos : Pos} (hr : SlR X r) (hf : SlD X.K r f k) (ha : SE X κ M ka a wa) (hl : SO X κ M lo wl) (hh : SO X κ M hi wh)
    (hs : stable ka M = true := by rfl) (pa : ka.rdable = true := by rfl) : SE X κ M k (.Subscript a (.Slice lo hi none p2) pos) (wSl f wa wl wh) :=
  SE.of (pe_slice hr ha hl hh) fun σ H Q ⟨g, env, W, F, hw, post⟩ => ⟨g, env, _, F, hw, fun x H1 g1 e1 d1 F1 s1 r1 w1 => ⟨g1, e1, _, F1, w1, fun l H2 g2 e2 F2 s2 w2 => ⟨g2, e2, _, F2, w2, fun u H3 g3 e3 F3 s3 ⟨z, ez, w3⟩ => by
    have s12 := s1.tr s2 F F1
    have s123 := s12.tr s3 F F2
    refine hf κ g3 e3 σ H3 x l u d1 z Q F3 (((r1.step s2 F1 hs).step s3 F2 hs).rdb pa) ez fun v H4 g4 F4 s4 r4 => ?_
    exact post v H4 g4 e3 z F4 (s123.tr (s4.mono fun _ q => nomatch q) F F3) (r4.back fun p q => s123.there F F3 q) w3⟩⟩⟩
/-- xs[::-1] of a list or (below) a tuple -/
def revLD : D → Option D
  | .list xs => some (.list xs.reverse)
  | _ => none
theorem se_revL {κ : List SK} {M : List Nat} {k : RK} {w : WE} {e : Expr} {j : Nat} {p1 p2 p3 pos : Pos} (he : SE X κ M k e w) (pa : k.rdable = true := by rfl) : SE X κ M .nw (.Subscript e (.Slice none none (some (.UnaryOp .USub (.Constant (.int 1) j p1) p2)) p3) pos) (wOp1 revLD w) :=
  SE.of (pe_revL he) fun σ H Q ⟨g, env, W, F, hw, post⟩ => ⟨g, env, _, F, hw, fun v H1 g1 e1 d F1 s1 r1 ⟨z, ez, w1⟩ => by
    cases d <;> simp only [revLD] at ez <;> first
      | (cases ez
         obtain ⟨a, ys, rfl, ra, za, la⟩ := (r1.rdb pa).toLst
         refine ⟨a, ys, rfl, .inl ra, fun p np => ok_lstN F1 la.reverse (by simpa using za) np fun v H2 g2 F2 s2 r2 => ?_⟩
         exact post v H2 g2 e1 _ F2 (s1.tr (s2.mono fun _ q => nomatch q) F F1) (r2.back fun p q => s1.there F F1 q) w1)
      | cases ez⟩
end
end G7

set_option maxRecDepth 100000
/-! walks, methods of lists, a def by its body, the law's end -/
namespace G7
open PySem PySem.Spec PyProof.Rows L2

/-! sources that stand -/
section
variable {K : PySem.W.Frag} {κ : List SK} {N : List Nat}
/-- a list or a tuple at a -/
def Src (K : PySem.W.Frag) (N : List Nat) (a : Addr) (xs : List D) (l : Bool) (g : Rg) (H : Hp) : Prop :=
  ∃ vs, vs.length ≤ sizeLine ∧ RepAll K H g.own vs xs ∧ (if l = true then Rd H a (.lst vs) ∧ ¬ g.P a ∧ ∀ j, g.al j = some a → j ∈ N else (¬ g.own a ∧ Rd H a (.tup vs)) ∨ KTup K a vs)
theorem SStep.off {M : List Nat} {g g' : Rg} {H H' : Hp} {env : En} {σ : St} (s : SStep κ M g g' H H') (F : Frm K κ g env σ H) : ∀ b o, ¬ g.own b → H b = some o → H' b = some o := fun b o n e =>
  s.keep b o e (fun p => n (F.p_own p)) fun i _ z => n (.inr ⟨i, z⟩)
theorem SStep.own {M : List Nat} {g g' : Rg} {H H' : Hp} (s : SStep κ M g g' H H') : ∀ a, g'.own a → g.own a ∨ H a = none := fun a q => by
  rcases q with q | ⟨i, q⟩
  · exact (s.dn a q).imp .inl id
  · rcases s.al i a q with z | z
    · exact .inl (.inr ⟨i, z⟩)
    · exact .inr z
theorem Src.holds {a : Addr} {xs : List D} {l : Bool} : ∀ (K' : PySem.W.Frag) M g g' env env' σ σ' H H', (∀ i ∈ M, i ∉ N) → Frm K' κ g env σ H → Frm K' κ g' env' σ' H' → SStep κ M g g' H H' → Src K N a xs l g H → Src K N a xs l g' H' := by
  intro K' M g g' env env' σ σ' H H' dis F F' s ⟨vs, z, al, h⟩
  have off := s.off F
  refine ⟨vs, z, al.keep off s.own, ?_⟩
  cases l with
  | true =>
    obtain ⟨r, np, na⟩ := h
    refine ⟨rd_keep (fun o e => s.keep a o e np fun i hi z => dis i hi (na i z)) r, fun q => (s.pd a q).elim np fun e => rd_tracked r e, fun j q => (s.al j a q).elim (na j) fun e => absurd e (rd_tracked r)⟩
  | false =>
    have h' : (¬ g.own a ∧ Rd H a (.tup vs)) ∨ KTup K a vs := h
    show (¬ g'.own a ∧ Rd H' a (.tup vs)) ∨ KTup K a vs
    refine h'.imp (fun ⟨n, r⟩ => ⟨fun q => (s.own a q).elim n fun e => rd_tracked r e, rd_keep (fun o e => off a o n e) r⟩) id
theorem src_holds {a : Addr} {xs : List D} {l : Bool} : Holds κ N (Src K N a xs l) := fun K' M g g' env env' σ σ' H H' => Src.holds K' M g g' env env' σ σ' H H'
def nOf : RK → List Nat
  | .ow i => [i]
  | _ => []
/-- from an answer -/
theorem src_lst {g : Rg} {env : En} {σ : St} {H0 H : Hp} {k : RK} {v : V} {ys0 : List D} (F : Frm K κ g env σ H) (pa : k.rdable = true) (r : Res K g k H0 H v (.list ys0)) : ∃ a, v = .ref a ∧ Src K (nOf k) a ys0 true g H := by
  have lst : ∃ a ys, v = .ref a ∧ Rd H a (.lst ys) ∧ ys.length ≤ sizeLine ∧ RepAll K H g.own ys ys0 ∧ ¬ g.P a ∧ ∀ j, g.al j = some a → j ∈ nOf k := by
    cases k with
    | fz =>
      cases r with
      | lst n q z al => exact ⟨_, _, rfl, q, z, al, fun p => n (F.p_own p), fun j e => absurd (.inr ⟨j, e⟩) n⟩
    | rd =>
      rcases r with r | ⟨a, rfl, np, na, r⟩
      · cases r with
        | lst n q z al => exact ⟨_, _, rfl, q, z, al, fun p => n (F.p_own p), fun j e => absurd (.inr ⟨j, e⟩) n⟩
      · cases r with
        | lst q z al => exact ⟨_, _, rfl, q, z, al, np, fun j e => absurd (F.il a na) (F.alo j a e).1⟩
    | nw =>
      obtain ⟨p, rfl, _, hO, hP, r⟩ := r
      cases r with
      | lst q z al => exact ⟨_, _, rfl, .inl q, z, al, hP, fun j e => absurd hO (F.alo j p e).1⟩
    | ow i =>
      obtain ⟨p, rfl, ea, r⟩ := r
      cases r with
      | lst q z al => exact ⟨_, _, rfl, .inl q, z, al, fun z => (F.alo i p ea).1 (F.pl p z).1, fun j e => by rw [F.inj j i p e ea]; simp [nOf]⟩
    | pl => simp [RK.rdable] at pa
    | np => simp [RK.rdable] at pa
  obtain ⟨a, ys, e1, q, z, al, np, na⟩ := lst
  exact ⟨a, e1, ys, z, al, q, np, na⟩
theorem src_tup {g : Rg} {H0 H : Hp} {k : RK} {v : V} {ys0 : List D} {N : List Nat} (pa : k.rdable = true) (r : Res K g k H0 H v (.tuple ys0)) : ∃ a, v = .ref a ∧ Src K N a ys0 false g H := by
  obtain ⟨a, ys, e1, q, z, al⟩ := (r.rdb pa).toTup
  exact ⟨a, e1, ys, z, al, q⟩
theorem src_of {g : Rg} {env : En} {σ : St} {H0 H : Hp} {k : RK} {v : V} {d : D} {xs : List D} (F : Frm K κ g env σ H) (pa : k.rdable = true) (r : Res K g k H0 H v d) (e : seqD d = some xs) : ∃ a l, v = .ref a ∧ Src K (nOf k) a xs l g H := by
  cases d with
  | list ys0 =>
    simp only [seqD, Option.some.injEq] at e
    subst e
    obtain ⟨a, e, s⟩ := src_lst F pa r
    exact ⟨a, true, e, s⟩
  | tuple ys0 =>
    simp only [seqD, Option.some.injEq] at e
    subst e
    obtain ⟨a, e, s⟩ := src_tup pa r
    exact ⟨a, false, e, s⟩
  | none => simp [seqD] at e
  | bool _ => simp [seqD] at e
  | int _ => simp [seqD] at e
  | str _ => simp [seqD] at e
  | dict kvs =>
    rcases dict_xt kvs with ⟨ys, rfl⟩ | hn
    · simp only [seqD, Option.some.injEq] at e
      subst e
      obtain ⟨a, ys, e1, q, z, al⟩ := (r.rdb pa).toTupO (d := xtD ys) rfl
      exact ⟨a, false, e1, ys, z, al, q⟩
    · exfalso
      unfold seqD at e
      split at e
      · rename_i e1; cases e1
      · rename_i e1; cases e1
      · rename_i e1; cases e1; exact hn _ rfl
      · cases e
end
section
variable {X : Cx} {tg : Expr}
/-- a list or a tuple is walked -/
def iSeq (K : PySem.W.Frag) (tl : TE) : TI := fun σ H R => tl σ H fun x H1 => ∃ a, x = .ref a ∧ ((∃ xs, SqL K H1 a xs ∧ R (Itl K a) H1) ∨ (∃ xs, SqT K H1 a xs ∧ R (Itt K a) H1))
theorem pi_seq {l : Expr} {tl : TE} (hl : PE X l tl) : PI X tg l (iSeq X.K tl) := by
  refine ⟨fun pins s σ H R I h => ?_⟩
  refine thn (hl.run pins s σ H _ I h) fun v s1 ⟨x, H1, I1, r1, q1⟩ => ?_
  obtain ⟨a, e, q⟩ := q1
  subst e
  cases r1
  rcases q with ⟨xs, hq, q⟩ | ⟨xs, hq, q⟩
  · obtain ⟨its, rv, p, hz⟩ := I1.list hq
    refine wpAny_pyIter_list p.isList ?_
    refine ⟨s1.heap.objs.size, [s1.heap.objs.size], _, _, H1, rfl, I1.kept (t' := s1.toks) fun b o e => Heap.get?_push_of_some _ e, turn_list a _, ⟨_, Heap.get?_push_size _ rfl, rfl, rfl⟩, fun b hb => ?_, q⟩
    have e : b = s1.heap.objs.size := by simpa using hb
    subst e
    exact I1.fpOk (Nat.le_refl _) (I1.hok.fresh (Nat.le_refl _))
  · obtain ⟨its, rv, p, hz⟩ := I1.tuple hq
    refine wpAny_pyIter_tuple (show s1.heap.IsTuple a its.toArray from p) ?_
    refine ⟨s1.heap.objs.size, [s1.heap.objs.size], _, _, H1, rfl, I1.kept (t' := s1.toks) fun b o e => Heap.get?_push_of_some _ e, turn_tuple a _, ⟨_, Heap.get?_push_size _ rfl, rfl, rfl⟩, fun b hb => ?_, q⟩
    have e : b = s1.heap.objs.size := by simpa using hb
    subst e
    exact I1.fpOk (Nat.le_refl _) (I1.hok.fresh (Nat.le_refl _))
theorem sq_l {K : PySem.W.Frag} {N : List Nat} {a : Addr} {xs : List D} {g : Rg} {H : Hp} (h : Src K N a xs true g H) : ∃ vs, SqL K H a vs ∧ RepAll K H g.own vs xs := by
  obtain ⟨vs, z, al, r, _⟩ := h; exact ⟨vs, .inl r, al⟩
theorem sq_t {K : PySem.W.Frag} {N : List Nat} {a : Addr} {xs : List D} {g : Rg} {H : Hp} (h : Src K N a xs false g H) : ∃ vs, SqT K H a vs ∧ RepAll K H g.own vs xs := by
  obtain ⟨vs, z, al, r⟩ := h; exact ⟨vs, sqT_of r, al⟩
theorem src_len {K : PySem.W.Frag} {N : List Nat} {a : Addr} {xs : List D} {l : Bool} {g : Rg} {H : Hp} (h : Src K N a xs l g H) : xs.length ≤ sizeLine := by
  obtain ⟨vs, z, al, _⟩ := h; rw [← al.length]; exact z
theorem walk_l {K : PySem.W.Frag} {N : List Nat} {a : Addr} {xs : List D} : Walk K (Itl K a) xs (Src K N a xs true) where
  go := fun g H i h _ hi => by
    obtain ⟨vs, q, al⟩ := sq_l h
    obtain ⟨v, e, _⟩ := al.get (List.getElem?_eq_getElem hi)
    exact ⟨vs, v, q, e⟩
  yd := fun g H i v H' h _ hi ⟨e, y⟩ => by
    obtain ⟨vs, q, al⟩ := sq_l h
    subst e
    obtain ⟨x, ex, r⟩ := al.getV (y vs q)
    exact ⟨fun _ _ q => q, x, ex, r⟩
  stop := fun g H h => by
    obtain ⟨vs, q, al⟩ := sq_l h
    exact ⟨vs, q, Nat.le_of_eq al.length⟩
  lenL := fun g H h => src_len h
theorem walk_t {K : PySem.W.Frag} {N : List Nat} {a : Addr} {xs : List D} : Walk K (Itt K a) xs (Src K N a xs false) where
  go := fun g H i h _ hi => by
    obtain ⟨vs, q, al⟩ := sq_t h
    obtain ⟨v, e, _⟩ := al.get (List.getElem?_eq_getElem hi)
    exact ⟨vs, v, q, e⟩
  yd := fun g H i v H' h _ hi ⟨e, y⟩ => by
    obtain ⟨vs, q, al⟩ := sq_t h
    subst e
    obtain ⟨x, ex, r⟩ := al.getV (y vs q)
    exact ⟨fun _ _ q => q, x, ex, r⟩
  stop := fun g H h => by
    obtain ⟨vs, q, al⟩ := sq_t h
    exact ⟨vs, q, Nat.le_of_eq al.length⟩
  lenL := fun g H h => src_len h
variable {κ : List SK} {M : List Nat} {k kb : RK} {a b : Expr} {w wb : WE} {p pos : Pos}
theorem si_seq (ha : SE X κ M k a w) (pa : k.rdable = true := by rfl) : SI X κ M (nOf k) tg a (wiSeq w) :=
  SI.of (pi_seq ha) fun σ H R ⟨g, env, W, F, hw, post⟩ => ⟨g, env, _, F, hw, fun v H1 g1 e1 d F1 s1 r1 ⟨xs, ex, w1⟩ => by
    obtain ⟨c, l, rfl, sr⟩ := src_of F1 pa r1 ex
    refine ⟨c, rfl, ?_⟩
    cases l with
    | true =>
      obtain ⟨vs, q, _⟩ := sq_l sr
      exact .inl ⟨vs, q, post _ H1 g1 e1 xs _ F1 s1 sr src_holds walk_l w1⟩
    | false =>
      obtain ⟨vs, q, _⟩ := sq_t sr
      exact .inr ⟨vs, q, post _ H1 g1 e1 xs _ F1 s1 sr src_holds walk_t w1⟩⟩
theorem rangeD_len (lo hi : Int) : (rangeD lo hi).length = (hi - lo).toNat := by simp [rangeD]
theorem rangeD_get {lo hi : Int} {i : Nat} (h : i < (hi - lo).toNat) : (rangeD lo hi)[i]? = some (.int (lo + (i : Int))) := by
  unfold rangeD
  rw [List.getElem?_map, List.getElem?_range h]
  rfl
theorem walk_r {K : PySem.W.Frag} {lo hi : Int} (hl : (hi - lo).toNat ≤ sizeLine) : Walk K (Itr lo (hi - lo).toNat) (rangeD lo hi) (fun _ _ => True) where
  go := fun g H i _ _ hi => by rw [rangeD_len] at hi; exact hi
  yd := fun g H i v H' _ _ hi ⟨e, y⟩ => by
    rw [rangeD_len] at hi
    subst e y
    exact ⟨fun _ _ q => q, _, rangeD_get hi, .int _⟩
  stop := fun g H _ => by rw [rangeD_len]; exact Nat.le_refl _
  lenL := fun g H _ => by rw [rangeD_len]; exact hl
theorem lim_eq : lim = 1000000 := rfl
theorem si_rg1 (hg : Gl X "range") (hm : X.mg "range" = none) (ha : SE X κ M k a w) (pa : k.rdable = true := by rfl) (hs : starEach [a] X.env = [(false, eval a X.env)] := by rfl) (he : starEach [a] X.env = (false, eval a X.env) :: starEach [] X.env := by rfl) : SI X κ M [] tg (.Call (.Name "range" p) [a] [] pos) (wiRg1 w) :=
  SI.of (pi_range1 hg hm (pa_cons ha pa_nil he) hs) fun σ H R ⟨g, env, W, F, hw, post⟩ => ⟨g, env, _, F, hw, fun v H1 g1 e1 d F1 s1 r1 ⟨n, e, hn0, hn, w1⟩ => by
    subst e
    have ev := (r1.rdb pa).toInt
    subst ev
    have hl := lim_eq
    refine ⟨n, rfl, by omega, by omega, ?_⟩
    have e0 : n.toNat = (n - 0).toNat := by simp
    rw [e0]
    exact post _ H1 g1 e1 _ _ F1 s1 trivial (fun _ _ _ _ _ _ _ _ _ _ _ _ _ _ _ => trivial) (walk_r (lim_line (by omega))) w1⟩
theorem si_rg2 (hg : Gl X "range") (hm : X.mg "range" = none) (ha : SE X κ M k a w) (hb : SE X κ M kb b wb) (st : stable k M = true := by rfl) (pa : k.rdable = true := by rfl) (pb : kb.rdable = true := by rfl) (hs : starEach [a, b] X.env = [(false, eval a X.env), (false, eval b X.env)] := by rfl) (hs2 : starEach [b] X.env = [(false, eval b X.env)] := by rfl)
    (he : starEach [a, b] X.env = (false, eval a X.env) :: starEach [b] X.env := by rfl) (he2 : starEach [b] X.env = (false, eval b X.env) :: starEach [] X.env := by rfl) : SI X κ M [] tg (.Call (.Name "range" p) [a, b] [] pos) (wiRg2 w wb) :=
  SI.of (pi_range2 hg hm (pa_cons ha (pa_cons hb pa_nil he2) he) hs hs2) fun σ H R ⟨g, env, W, F, hw, post⟩ => ⟨g, env, _, F, hw, fun v H1 g1 e1 d F1 s1 r1 w1 => ⟨g1, e1, _, F1, w1, fun u H2 g2 e2 d2 F2 s2 r2 ⟨m, n, em, en, h1, h2, h3, h4, w2⟩ => by
    subst em en
    have ev := (r1.rdb pa).toInt
    have eu := (r2.rdb pb).toInt
    subst ev eu
    have hl := lim_eq
    refine ⟨m, n, rfl, ⟨by omega, by omega, by omega, by omega⟩, ?_⟩
    refine post _ H2 g2 e2 _ _ F2 (s1.tr s2 F F1) trivial (fun _ _ _ _ _ _ _ _ _ _ _ _ _ _ _ => trivial) (walk_r ?_) w2
    rw [sizeLine_eq]; omega⟩⟩
/-! zip -/
def sameK (x y : D) : Bool := match x, y with
  | .list _, .list _ => true
  | .tuple _, .tuple _ => true
  | _, _ => false
theorem holds_and {N1 N2 : List Nat} {L1 L2 : Rg → Hp → Prop} (h1 : Holds κ N1 L1) (h2 : Holds κ N2 L2) : Holds κ (N1 ++ N2) fun g H => L1 g H ∧ L2 g H :=
  fun K M g g' env env' σ σ' H H' dis F F' s ⟨a, b⟩ => ⟨h1 K M g g' env env' σ σ' H H' (fun i hi z => dis i hi (List.mem_append_left _ z)) F F' s a, h2 K M g g' env env' σ σ' H H' (fun i hi z => dis i hi (List.mem_append_right _ z)) F F' s b⟩
theorem zip_len {xs ys : List D} : (zipD xs ys).length = min xs.length ys.length := by simp [zipD]
theorem zip_get {xs ys : List D} {i : Nat} {x y : D} (hx : xs[i]? = some x) (hy : ys[i]? = some y) : (zipD xs ys)[i]? = some (.tuple [x, y]) := by
  simp [zipD, List.getElem?_zipWith, hx, hy]
theorem pair_rep {K : PySem.W.Frag} {g : Rg} {H : Hp} {T : Addr} {v u : V} {x y : D} (tr : ∀ a, g.own a → H a ≠ none) (n : H T = none) (rx : Rep K H g.own v x) (ry : Rep K H g.own u y) : Rep K (upd H T (.tup [v, u])) g.own (.ref T) (.tuple [x, y]) :=
  .tup (fun q => tr T q n) upd_same (by rw [sizeLine_eq]; show 2 ≤ 2 ^ 24; decide) (.cons (rx.keep (fun a o _ e => same_new n a o e) fun _ q => .inl q) (.cons (ry.keep (fun a o _ e => same_new n a o e) fun _ q => .inl q) .nil))
theorem walk_zl {K : PySem.W.Frag} {N1 N2 : List Nat} {a b : Addr} {xs ys : List D} : Walk K (Itz K a b) (zipD xs ys) (fun g H => Src K N1 a xs true g H ∧ Src K N2 b ys true g H) where
  go := fun g H i ⟨h1, h2⟩ _ hi => by
    rw [zip_len] at hi
    obtain ⟨vs, q, al⟩ := sq_l h1
    obtain ⟨us, q2, al2⟩ := sq_l h2
    obtain ⟨v, e, _⟩ := al.get (List.getElem?_eq_getElem (show i < xs.length by omega))
    obtain ⟨u, e2, _⟩ := al2.get (List.getElem?_eq_getElem (show i < ys.length by omega))
    exact ⟨vs, us, v, u, q, q2, e, e2⟩
  yd := fun g H i v H' ⟨h1, h2⟩ tr hi ⟨T, x, y, e, n, eH, f1, f2⟩ => by
    obtain ⟨vs, q, al⟩ := sq_l h1
    obtain ⟨us, q2, al2⟩ := sq_l h2
    subst e eH
    obtain ⟨dx, ex, rx⟩ := al.getV (f1 vs q)
    obtain ⟨dy, ey, ry⟩ := al2.getV (f2 us q2)
    exact ⟨same_new n, _, zip_get ex ey, pair_rep tr n rx ry⟩
  stop := fun g H ⟨h1, h2⟩ => by
    obtain ⟨vs, q, al⟩ := sq_l h1
    obtain ⟨us, q2, al2⟩ := sq_l h2
    have e1 := al.length
    have e2 := al2.length
    refine ⟨vs, us, q, q2, ?_⟩
    rw [zip_len]; omega
  lenL := fun g H ⟨h1, _⟩ => by rw [zip_len]; exact Nat.le_trans (Nat.min_le_left _ _) (src_len h1)
theorem walk_zt {K : PySem.W.Frag} {N1 N2 : List Nat} {a b : Addr} {xs ys : List D} : Walk K (RZ.ItzT K a b) (zipD xs ys) (fun g H => Src K N1 a xs false g H ∧ Src K N2 b ys false g H) where
  go := fun g H i ⟨h1, h2⟩ _ hi => by
    rw [zip_len] at hi
    obtain ⟨vs, q, al⟩ := sq_t h1
    obtain ⟨us, q2, al2⟩ := sq_t h2
    obtain ⟨v, e, _⟩ := al.get (List.getElem?_eq_getElem (show i < xs.length by omega))
    obtain ⟨u, e2, _⟩ := al2.get (List.getElem?_eq_getElem (show i < ys.length by omega))
    exact ⟨vs, us, v, u, q, q2, e, e2⟩
  yd := fun g H i v H' ⟨h1, h2⟩ tr hi ⟨T, x, y, e, n, eH, f1, f2⟩ => by
    obtain ⟨vs, q, al⟩ := sq_t h1
    obtain ⟨us, q2, al2⟩ := sq_t h2
    subst e eH
    obtain ⟨dx, ex, rx⟩ := al.getV (f1 vs q)
    obtain ⟨dy, ey, ry⟩ := al2.getV (f2 us q2)
    exact ⟨same_new n, _, zip_get ex ey, pair_rep tr n rx ry⟩
  stop := fun g H ⟨h1, h2⟩ => by
    obtain ⟨vs, q, al⟩ := sq_t h1
    obtain ⟨us, q2, al2⟩ := sq_t h2
    have e1 := al.length
    have e2 := al2.length
    refine ⟨vs, us, q, q2, ?_⟩
    rw [zip_len]; omega
  lenL := fun g H ⟨h1, _⟩ => by rw [zip_len]; exact Nat.le_trans (Nat.min_le_left _ _) (src_len h1)
def wiZip2 (a b : WE) : WI := fun e Q => a e fun x e1 => b e1 fun y e2 => ∃ xs ys, sameK x y = true ∧ seqD x = some xs ∧ seqD y = some ys ∧ Q (zipD xs ys) e2
theorem si_zip {elts : List Expr} {kk : Nat} {tpos : Pos} (hg : Gl X "zip") (hm : X.mg "zip" = none) (ha : SE X κ M k a w) (hb : SE X κ M kb b wb) (st : stable k M = true := by rfl) (pa : k.rdable = true := by rfl) (pb : kb.rdable = true := by rfl)
    (hs : starEach [a, b] X.env = (false, eval a X.env) :: starEach [b] X.env := by rfl) (hs2 : starEach [b] X.env = (false, eval b X.env) :: starEach [] X.env := by rfl) (hpl : (backTo pos (starEach [b] X.env)).any (·.1) = false := by rfl) : SI X κ M (nOf k ++ nOf kb) (.Tuple elts kk tpos) (.Call (.Name "zip" p) [a, b] [] pos) (wiZip2 w wb) :=
  SI.of (RZ.pi_zipA hg hm (pa_cons ha (pa_cons hb pa_nil hs2) hs) hs hpl) fun σ H R ⟨g, env, W, F, hw, post⟩ => ⟨g, env, _, F, hw, fun v H1 g1 e1 d F1 s1 r1 w1 => ⟨g1, e1, _, F1, w1, fun u H2 g2 e2 d2 F2 s2 r2 ⟨xs, ys, sk, ex, ey, w2⟩ => by
    have s12 := s1.tr s2 F F1
    have r1' := r1.step s2 F1 st
    cases d with
    | list xs0 =>
      cases d2 with
      | list ys0 =>
        simp only [seqD, Option.some.injEq] at ex ey
        subst ex ey
        obtain ⟨c, rfl, sr⟩ := src_lst F2 pa r1'
        obtain ⟨c2, rfl, sr2⟩ := src_lst F2 pb r2
        obtain ⟨vs, q, _⟩ := sq_l sr
        obtain ⟨us, q2, _⟩ := sq_l sr2
        exact ⟨c, c2, vs, us, rfl, .inl ⟨q, q2, post _ H2 g2 e2 _ _ F2 s12 ⟨sr, sr2⟩ (holds_and src_holds src_holds) walk_zl w2⟩⟩
      | _ => exact absurd sk (by simp [sameK])
    | tuple xs0 =>
      cases d2 with
      | tuple ys0 =>
        simp only [seqD, Option.some.injEq] at ex ey
        subst ex ey
        obtain ⟨c, rfl, sr⟩ := src_tup (N := nOf k) pa r1'
        obtain ⟨c2, rfl, sr2⟩ := src_tup (N := nOf kb) pb r2
        obtain ⟨vs, q, _⟩ := sq_t sr
        obtain ⟨us, q2, _⟩ := sq_t sr2
        exact ⟨c, c2, vs, us, rfl, .inr ⟨q, q2, post _ H2 g2 e2 _ _ F2 s12 ⟨sr, sr2⟩ (holds_and src_holds src_holds) walk_zt w2⟩⟩
      | _ => exact absurd sk (by simp [sameK])
    | _ => exact absurd sk (by simp [sameK])⟩⟩
/-! comprehensions -/
section
variable {elt iter : Expr} {ifs : List Expr} {scope : Scope} {own : List (Str × Nat)} {wi : WI} {N : List Nat} {f : WG} {ts : List Nat} {t : WT}
def SPs (X : Cx) (κ : List SK) (M : List Nat) (ifs : List Expr) (t : WT) : Prop := PTs X ifs (cT X.K κ M t)
theorem sp_nil : SPs X κ M [] G7.tYes := ⟨fun pins s0 σ H Q I ⟨g, env, W, F, hw, post⟩ => pts_nil.run pins s0 σ H Q I (post true H g env F .refl hw)⟩
theorem sp_one {c : Expr} (h : ST X κ M c t) : SPs X κ M [c] t := pts_one h
theorem se_lc (hc : X.calm = true) (hN : X.N.Nodup) (hi : SI X κ M N tg iter wi) (ok : BlkOk X.N X.env.scope scope own)
    (hg : ∀ (s : Shared) (H : Hp) (C : Addr) (cl : List (Str × Addr)) (fp : List Addr), SG (X.blk s H scope (compEnvC scope cl C X.env) fp) κ ts tg f) (ht : ∀ (s : Shared) (H : Hp) (C : Addr) (cl : List (Str × Addr)) (fp : List Addr), SPs (X.blk s H scope (compEnvC scope cl C X.env) fp) κ M ifs t)
    (he : ∀ (s : Shared) (H : Hp) (C : Addr) (cl : List (Str × Addr)) (fp : List Addr), SE (X.blk s H scope (compEnvC scope cl C X.env) fp) κ M .fz elt w) (hv : ∀ i ∈ own.map (·.2), kindOf κ i = .v := by decide) (hts : ∀ i ∈ ts, i ∈ own.map (·.2) := by decide) (dis : ∀ i ∈ M, i ∉ N := by decide) (hs : ∀ x, foldedSetIterable iter X.env x = pure x := by intro _; rfl) :
    SE X κ M .nw (.ListComp elt [⟨tg, iter, ifs, 0⟩] scope pos) (wComp wi f (own.map (·.2)) t w) :=
  SE.of (pe_lc (g := cG X.K κ ts f) (tt := cT X.K κ M t) (te := cE X.K κ M .fz w) hc hN hi ok hg ht he hs) fun σ H Q h => comp_go hv hts dis σ H Q h
theorem ps_lcAsg {i : Nat} {y : Str} {py spos : Pos} (hc : X.calm = true) (hN : X.N.Nodup) (hy : X.N[i]? = some y) (hyl : X.env.scope.names.lookup y = some .local) (hsw : swapsWith (.ListComp elt [⟨tg, iter, ifs, 0⟩] scope pos) (some (.Name y py)) spos.line X.env = pure true) (hi : SI X κ M N tg iter wi) (ok : BlkOk X.N X.env.scope scope own)
    (hg : ∀ (s : Shared) (H : Hp) (C : Addr) (cl : List (Str × Addr)) (fp : List Addr), SG (X.blk s H scope (compEnvC scope cl C X.env) fp) κ ts tg f) (ht : ∀ (s : Shared) (H : Hp) (C : Addr) (cl : List (Str × Addr)) (fp : List Addr), SPs (X.blk s H scope (compEnvC scope cl C X.env) fp) κ M ifs t)
    (he : ∀ (s : Shared) (H : Hp) (C : Addr) (cl : List (Str × Addr)) (fp : List Addr), SE (X.blk s H scope (compEnvC scope cl C X.env) fp) κ M .fz elt w) (hv : ∀ i ∈ own.map (·.2), kindOf κ i = .v) (hts : ∀ i ∈ ts, i ∈ own.map (·.2)) (dis : ∀ i ∈ M, i ∉ N) (hs : ∀ x, foldedSetIterable iter X.env x = pure x) :
    PS X (.Assign [.Name y py] (.ListComp elt [⟨tg, iter, ifs, 0⟩] scope pos) spos) (tAsg (cE X.K κ M .nw (wComp wi f (own.map (·.2)) t w)) (gName i)) :=
  ⟨fun pins s0 σ H D I h => (ps_setLc (g := cG X.K κ ts f) (tt := cT X.K κ M t) (te := cE X.K κ M .fz w) hc hN hy hyl hsw hi ok hg ht he hs).run pins s0 σ H D I (comp_go hv hts dis σ H _ h)⟩
theorem cE_nf (σ : St) (H : Hp) (Q : VK) (h : cE X.K κ M .fz w σ H Q) : cE X.K κ M .nw w σ H Q := by
  obtain ⟨g, env, W, F, hw, post⟩ := h
  refine ⟨g, env, W, F, hw, fun v H' g' env' d F' s ⟨p, e1, n, hO, hP, r⟩ wd => ?_⟩
  subst e1
  have F2 : Frm X.K κ { g' with O := g.O } env' σ H' := F'.less rfl rfl rfl (fun a q => F.il a (by rw [← s.I]; exact q)) (fun a q => (F.pl a (by rw [← s.P]; exact q)).1) s.up
  refine post _ H' { g' with O := g.O } env' d F2 ⟨s.al, s.P, s.I, fun _ q => q, fun _ q => .inl q, s.keep, s.pool⟩ ?_ wd
  have sub : ∀ a, Rg.own { g' with O := g.O } a → g'.own a := fun a q => q.imp (s.up a) id
  have np : ¬ Rg.own { g' with O := g.O } p := fun q => by
    rcases q with q | ⟨i, q⟩
    · exact F.ot p q n
    · exact (F'.alo i p q).1 hO
  exact (r.r.keep (S' := Rg.own { g' with O := g.O }) (H' := H') (fun _ q => q) (fun _ _ _ q => q) fun a q => .inl (sub a q)).rep np
variable {M2 : List Nat} {rk : RK}
/-- name = [..], an own slot -/
theorem ss_lcO {i : Nat} {y : Str} {py spos : Pos} (hc : X.calm = true) (hN : X.N.Nodup) (hy : X.N[i]? = some y) (hyl : X.env.scope.names.lookup y = some .local) (hsw : swapsWith (.ListComp elt [⟨tg, iter, ifs, 0⟩] scope pos) (some (.Name y py)) spos.line X.env = pure true) (hi : SI X κ M N tg iter wi) (ok : BlkOk X.N X.env.scope scope own)
    (hg : ∀ (s : Shared) (H : Hp) (C : Addr) (cl : List (Str × Addr)) (fp : List Addr), SG (X.blk s H scope (compEnvC scope cl C X.env) fp) κ ts tg f) (ht : ∀ (s : Shared) (H : Hp) (C : Addr) (cl : List (Str × Addr)) (fp : List Addr), SPs (X.blk s H scope (compEnvC scope cl C X.env) fp) κ M ifs t)
    (he : ∀ (s : Shared) (H : Hp) (C : Addr) (cl : List (Str × Addr)) (fp : List Addr), SE (X.blk s H scope (compEnvC scope cl C X.env) fp) κ M .fz elt w) (hk : kindOf κ i = .o := by decide) (hm : i ∈ M2 := by decide) (hv : ∀ i ∈ own.map (·.2), kindOf κ i = .v := by decide) (hts : ∀ i ∈ ts, i ∈ own.map (·.2) := by decide) (dis : ∀ i ∈ M, i ∉ N := by decide) (sub : ∀ i ∈ M, i ∈ M2 := by decide) (hs : ∀ x, foldedSetIterable iter X.env x = pure x := by intro _; rfl) :
    SS X κ M2 rk (.Assign [.Name y py] (.ListComp elt [⟨tg, iter, ifs, 0⟩] scope pos) spos) (wAsg i (wComp wi f (own.map (·.2)) t w)) := ss_tAsgO (ps_lcAsg hc hN hy hyl hsw hi ok hg ht he hv hts dis hs) hk hm sub
/-- name = [..], a slot of kind f -/
theorem ss_lcF {i : Nat} {y : Str} {py spos : Pos} (hc : X.calm = true) (hN : X.N.Nodup) (hy : X.N[i]? = some y) (hyl : X.env.scope.names.lookup y = some .local) (hsw : swapsWith (.ListComp elt [⟨tg, iter, ifs, 0⟩] scope pos) (some (.Name y py)) spos.line X.env = pure true) (hi : SI X κ M N tg iter wi) (ok : BlkOk X.N X.env.scope scope own)
    (hg : ∀ (s : Shared) (H : Hp) (C : Addr) (cl : List (Str × Addr)) (fp : List Addr), SG (X.blk s H scope (compEnvC scope cl C X.env) fp) κ ts tg f) (ht : ∀ (s : Shared) (H : Hp) (C : Addr) (cl : List (Str × Addr)) (fp : List Addr), SPs (X.blk s H scope (compEnvC scope cl C X.env) fp) κ M ifs t)
    (he : ∀ (s : Shared) (H : Hp) (C : Addr) (cl : List (Str × Addr)) (fp : List Addr), SE (X.blk s H scope (compEnvC scope cl C X.env) fp) κ M .fz elt w) (hk : kindOf κ i = .f := by decide) (hm : i ∈ M2 := by decide) (hv : ∀ i ∈ own.map (·.2), kindOf κ i = .v := by decide) (hts : ∀ i ∈ ts, i ∈ own.map (·.2) := by decide) (dis : ∀ i ∈ M, i ∉ N := by decide) (sub : ∀ i ∈ M, i ∈ M2 := by decide) (hs : ∀ x, foldedSetIterable iter X.env x = pure x := by intro _; rfl) :
    SS X κ M2 rk (.Assign [.Name y py] (.ListComp elt [⟨tg, iter, ifs, 0⟩] scope pos) spos) (wAsg i (wComp wi f (own.map (·.2)) t w)) := ss_tAsgF (ps_lcAsg hc hN hy hyl hsw hi ok hg ht he hv hts dis hs) hk hm sub
/-- .. a slot of told things -/
theorem ss_lcV {i : Nat} {y : Str} {py spos : Pos} (hc : X.calm = true) (hN : X.N.Nodup) (hy : X.N[i]? = some y) (hyl : X.env.scope.names.lookup y = some .local) (hsw : swapsWith (.ListComp elt [⟨tg, iter, ifs, 0⟩] scope pos) (some (.Name y py)) spos.line X.env = pure true) (hi : SI X κ M N tg iter wi) (ok : BlkOk X.N X.env.scope scope own)
    (hg : ∀ (s : Shared) (H : Hp) (C : Addr) (cl : List (Str × Addr)) (fp : List Addr), SG (X.blk s H scope (compEnvC scope cl C X.env) fp) κ ts tg f) (ht : ∀ (s : Shared) (H : Hp) (C : Addr) (cl : List (Str × Addr)) (fp : List Addr), SPs (X.blk s H scope (compEnvC scope cl C X.env) fp) κ M ifs t)
    (he : ∀ (s : Shared) (H : Hp) (C : Addr) (cl : List (Str × Addr)) (fp : List Addr), SE (X.blk s H scope (compEnvC scope cl C X.env) fp) κ M .fz elt w) (hk : kindOf κ i = .v := by decide) (hv : ∀ i ∈ own.map (·.2), kindOf κ i = .v := by decide) (hts : ∀ i ∈ ts, i ∈ own.map (·.2) := by decide) (dis : ∀ i ∈ M, i ∉ N := by decide) (sub : ∀ i ∈ M, i ∈ M2 := by decide) (hs : ∀ x, foldedSetIterable iter X.env x = pure x := by intro _; rfl) :
    SS X κ M2 rk (.Assign [.Name y py] (.ListComp elt [⟨tg, iter, ifs, 0⟩] scope pos) spos) (wAsg i (wComp wi f (own.map (·.2)) t w)) :=
  ss_tAsg ⟨fun pins s0 σ H D I h => (ps_lcAsg hc hN hy hyl hsw hi ok hg ht he hv hts dis hs).run pins s0 σ H D I (cE_nf σ H _ h)⟩ hk sub
end
/-! methods of lists -/
theorem md_append {K : PySem.W.Frag} : MtD K rAppend appendF [.fz] := by
  intro κ g env σ H0 H a xs dxs ds dxs' vs z Q F hO hH zl al r e h
  match ds, vs, r, e with
  | [d], [v], r, e =>
    simp only [appendF] at e
    split at e
    · rename_i hl
      cases e
      have hz : xs.length < sizeLine := by rw [al.length]; exact Nat.lt_of_lt_of_le hl (by rw [sizeLine_eq]; decide)
      exact ⟨a, xs, v, rfl, rfl, hH, hz, h _ _ (al.append (.cons r.1 .nil)) (by simp; omega) .non⟩
    · cases e
theorem md_insert {K : PySem.W.Frag} : MtD K (fun x vs H Q => ∃ (l : Addr) (xs : List V) (i : Int) (y : V), x = .ref l ∧ vs = [.int i, y] ∧ H l = some (.lst xs) ∧ xs.length < sizeLine ∧ 0 ≤ i ∧ i < 2 ^ 63 ∧
    Q .non (upd H l (.lst (xs.take i.toNat ++ [y] ++ xs.drop i.toNat)))) insertF [.fz, .fz] := by
  intro κ g env σ H0 H a xs dxs ds dxs' vs z Q F hO hH zl al r e h
  match ds, vs, r, e with
  | [.int i, d], [u, v], r, e =>
    simp only [insertF] at e
    split at e
    · rename_i hl
      cases e
      have hz : xs.length < sizeLine := by rw [al.length]; exact Nat.lt_of_lt_of_le hl.1 (by rw [sizeLine_eq]; decide)
      have hu : u = .int i := Rep.toInt r.1
      subst hu
      have h63 : i < 2 ^ 63 := by
        have h1 := hl.2.2
        have h2 := hl.1
        have h3 := lim_eq
        omega
      exact ⟨a, xs, i, v, rfl, rfl, hH, hz, hl.2.1, h63, h _ _ (by
        have := ((al.take i.toNat).append (.cons r.2.1 .nil)).append (al.drop i.toNat)
        simpa using this) (by simp; omega) .non⟩
    · cases e
theorem md_popAt {K : PySem.W.Frag} : MtD K rPopAt popAtF [.fz] := by
  intro κ g env σ H0 H a xs dxs ds dxs' vs z Q F hO hH zl al r e h
  match ds, vs, r, e with
  | [.int i], [u], r, e =>
    simp only [popAtF, Option.bind_eq_some_iff, Option.map_eq_some_iff] at e
    obtain ⟨j, ej, d, ed, e⟩ := e
    cases e
    have hu : u = .int i := Rep.toInt r.1
    subst hu
    obtain ⟨v, ev, rv⟩ := al.get ed
    have ej' : L2.ixN xs.length i = some j := by rw [al.length]; exact ej
    obtain ⟨h1, h2, h3, h4⟩ := ixN_seq ej'
    have hs := sizeLine_eq
    exact ⟨a, xs, i, j, v, rfl, rfl, hH, by omega, by omega, h1, ev, h v _ (al.eraseIdx j) (Nat.le_trans (len_erase _ _) zl) rv⟩
theorem md_extend {K : PySem.W.Frag} : MtD K rExtend extendF [.nw] := by
  intro κ g env σ H0 H a xs dxs ds dxs' vs z Q F hO hH zl al r e h
  match ds, vs, r, e with
  | [.list zs], [u], r, e =>
    simp only [extendF] at e
    split at e
    · rename_i hl
      cases e
      obtain ⟨p, rfl, n, hOp, hP, ob⟩ := r.1
      cases ob with
      | @lst us _ q z2 al2 =>
        have hz : xs.length + us.length ≤ sizeLine := by rw [al.length, al2.length]; exact lim_line hl
        exact ⟨a, p, xs, _, rfl, rfl, hH, q, hz, h _ _ (al.append al2) (by rw [List.length_append]; exact hz) .non⟩
    · cases e
end
/-! a def by its body -/
def skOf : PM → SK
  | .fz => .v
  | .rd => .r
  | .pl => .p
section
variable {P : Program} {w : World} {K : PySem.W.Frag} {mg : Str → Option Value} {base : Heap}
def startE (n : Nat) (ds : List D) : En := ds.map some ++ List.replicate (n - ds.length) none
theorem args_slot {H : Hp} {O P' : Addr → Prop} : ∀ {ms : List PM} {vs : List V} {ds : List D} {i : Nat} {d : D}, ArgsOk K H O P' ms vs ds → ds[i]? = some d → ∃ v m, vs[i]? = some v ∧ ms[i]? = some m ∧ ArgOk K H O P' m v d
  | [], [], [], i, d, _, e => by simp at e
  | m :: ms, v :: vs, d :: ds, 0, d', h, e => by
    simp at e; subst e
    exact ⟨v, m, rfl, rfl, h.1⟩
  | m :: ms, v :: vs, d :: ds, i + 1, d', h, e => by
    obtain ⟨v', m', h1, h2, h3⟩ := args_slot (i := i) (d := d') h.2 (by simpa using e)
    exact ⟨v', m', by simpa using h1, by simpa using h2, h3⟩
  | [], [], _ :: _, _, _, h, _ => h.elim
  | [], _ :: _, _, _, _, h, _ => h.elim
  | _ :: _, [], _, _, _, h, _ => h.elim
  | _ :: _, _ :: _, [], _, _, h, _ => h.elim
theorem fn_def {x qual : Str} {st : Stmt} {f : Addr} {fd : FuncData} {N ps : List Str} {lv : Nat} {κ : List SK} {M : List Nat} {rk : RK} {S : FS} {wb : WS} (ms : List PM) (F : Fun K x qual st f fd) (Sc : FnScope N ps (defScope st)) (hκ : κ.length = N.length) (hms : ms.length = ps.length)
    (hp : κ.take ms.length = ms.map skOf) (hr : rk = .fz ∨ rk = .nw) (hq : ∀ i, kindOf κ i ≠ .q)
    (body : ∀ (cdv : Value) (A : Around) (outer : List Env) (s : Shared) (H : Hp) (E : XK), Room lv (A.deeper (envOfC qual (defScope st) s.heap.objs.size f cdv)) →
      SSs (cxOf CX0 P w K mg base N qual (defScope st) f cdv A outer s H E).nox κ M rk (defBody st) wb)
    (math : ∀ ds Post, S ds Post → wb { nx := fun _ => Post .none ∧ rk = .fz, rt := fun d _ => Post d } (startE N.length ds)) :
    FnOk P w K mg base CX0 (lv + 1) f fd ps (spOf K ms rk S) := by
  refine F.ok Sc (fun vs H Q E h => ?_) fun cdv A outer s H vs Q E hroom h => ?_
  · obtain ⟨O, P', ds, Post, _, _, ha, _⟩ := h
    rw [ha.len.1, hms]
  · obtain ⟨O, P', ds, Post, hO, hP, ha, hS, k⟩ := h
    refine ⟨_, body cdv A outer s H E hroom, ?_⟩
    have hl := ha.len
    have hle : ps.length ≤ N.length := by
      have := congrArg List.length Sc.pre
      rw [List.length_take] at this; omega
    have Fr0 : Frm K κ ⟨O, P', O, fun _ => none⟩ (startE N.length ds) (L2.start N vs) H := by
      refine ⟨by simp [startE, hκ]; omega, by simp [L2.start, hκ]; omega, fun i d e => ?_, fun i j a (e : none = some a) => (nomatch e), fun i a (e : none = some a) => (nomatch e), hO, fun _ q => q, hP⟩
      unfold startE at e
      by_cases hi : i < ds.length
      · rw [List.getElem?_append_left (by simpa using hi)] at e
        rw [List.getElem?_map] at e
        cases q : ds[i]? with
        | none => rw [q] at e; cases e
        | some d' =>
          rw [q] at e
          have e' : d' = d := by simpa using e
          subst e'
          obtain ⟨v, m, h1, h2, h3⟩ := args_slot ha q
          refine ⟨v, ?_, ?_⟩
          · unfold L2.start
            rw [List.getElem?_append_left (by rw [List.length_map]; exact (List.getElem?_eq_some_iff.mp h1).1), List.getElem?_map, h1]
            rfl
          · have hk : kindOf κ i = skOf m := by
              unfold kindOf
              have : (κ.take ms.length)[i]? = some (skOf m) := by rw [hp, List.getElem?_map, h2]; rfl
              rw [List.getElem?_take] at this
              split at this
              · rw [this]; rfl
              · cases this
            rw [hk]
            have own : ∀ a, Rg.own ⟨O, P', O, fun _ => none⟩ a → O a := fun a q => q.elim id fun ⟨_, (e : none = some a)⟩ => nomatch e
            have up : ∀ {v d}, Rep K H O v d → Rep K H (Rg.own ⟨O, P', O, fun _ => none⟩) v d := fun r => r.keep (fun _ _ _ q => q) fun a q => .inl (own a q)
            cases m with
            | fz => exact up h3
            | rd =>
              rcases h3 with h3 | ⟨a, e1, np, ho, r⟩
              · exact .inl (up h3)
              · exact .inr ⟨a, e1, np, ho, r.keep (fun _ q => q) (fun _ _ _ q => q) fun a q => .inl (own a q)⟩
            | pl => exact h3
      · rw [List.getElem?_append_right (by simpa using hi)] at e
        rw [List.getElem?_replicate] at e
        split at e <;> cases e
    have nb : ∀ a, baseO κ ⟨O, P', O, fun _ => none⟩ a → O a := fun a q => q.elim id fun ⟨i, hk, _⟩ => absurd hk (hq i)
    have ob : ∀ a, O a → baseO κ ⟨O, P', O, fun _ => none⟩ a := fun a q => .inl q
    have fin : ∀ {g' : Rg} {env' : En} {σ' : St} {H' : Hp} {v : V} {d : D}, Frm K κ g' env' σ' H' → SStep κ M ⟨O, P', O, fun _ => none⟩ g' H H' → ResR K κ rk ⟨O, P', O, fun _ => none⟩ H H' v d → Post d → Q v H' := by
      intro g' env' σ' H' v d F' s' r pd
      refine k v H' d pd (fun b o e np => s'.keep b o e np fun _ _ (z : none = some b) => nomatch z) (fun b p => s'.pool b p) ?_
      rcases hr with e | e <;> subst e
      · exact Rep.keep (fun _ _ _ q => q) (fun a q => .inl (ob a q)) r
      · obtain ⟨p, e1, n, r⟩ := r
        have n' : H p = none := n.elim id fun ⟨_, _, (z : none = some p)⟩ => nomatch z
        exact ⟨p, e1, n', r.keep (fun _ q => q) (fun _ _ _ q => q) fun a (q : O a ∨ a = p) => .inl (q.imp (ob a) id)⟩
    exact ⟨⟨O, P', O, fun _ => none⟩, startE N.length ds, _, Fr0, math ds Post hS, fun g' env' σ' H' F' s' ⟨pd, er⟩ => fin F' s' (by subst er; exact .non) pd, fun _ _ _ _ _ _ q => q.elim, fun _ _ _ _ _ _ q => q.elim,
      fun g' env' σ' H' v d F' s' r pd => fin F' s' r pd⟩
end
/-! the law's own promise, from the promise of its def -/
theorem script_rep {K : PySem.W.Frag} {H : Hp} {a : Addr} {ns : List Int} (h : Rd H a (.lst (ns.map V.int))) (hl : ns.length ≤ 63) : Rep K H (fun _ => False) (.ref a) (.list (ns.map .int)) :=
  .lst (fun q => q) h (by rw [List.length_map, sizeLine_eq]; omega) (repInts ns)
def lawS : FS := fun ds Post => ∃ ns : List Int, ds = [.list (ns.map .int)] ∧ ns.length ≤ 63 ∧ Post (.bool true)
end G7

set_option maxRecDepth 100000
/-! calls in short, pools, displays times numbers, the law's end -/
namespace G7
open PySem PySem.Spec PyProof.Rows L2

/-- a def as its callers use it -/
structure FnB (P : Program) (w : World) (K : PySem.W.Frag) (mg : Str → Option Value) (base : Heap) (lv : Nat) (x : Str) (ps : List Str) (ms : List PM) (k : RK) (S : FS) : Prop where
  ex : ∃ f fd, FnOk P w K mg base CX0 lv f fd ps (spOf K ms k S) ∧ mg x = some (.ref f) ∧ PySem.W.keepIn K (.ref f) = true ∧ L2.Binds K fd ps []
section
variable {X : Cx} {κ : List SK} {M Me : List Nat} {k rk ka kb : RK} {pos : Pos} {a b e : Expr} {w wa wb : WE}
theorem se_fn {lv lc : Nat} {ps : List Str} {ms : List PM} {S : FS} {x : Str} {p : Pos} {e : Expr} {es : List Expr} {ks : List RK} {wl : WA} (G : FnB X.prog X.w X.K X.mg X.base lc x ps ms k S) (hr : Room lv X.A) (hg : Gl X x) (ha : SA X κ M ks (e :: es) wl) (hl : lc ≤ lv := by decide)
    (hp : passA ks ms = true := by rfl) (kk : k = .fz ∨ k = .nw := by first | exact .inl rfl | exact .inr rfl) (hdb : (x == ("__debug__" : Str)) = false := by decide)
    (he : starEach (e :: es) X.env = (false, eval e X.env) :: starEach es X.env := by rfl) (hpl : (backTo pos (starEach es X.env)).any (·.1) = false := by rfl) : SE X κ M k (.Call (.Name x p) (e :: es) [] pos) (wCall S wl) := by
  obtain ⟨f, fd, F, hm, hk, hb⟩ := G.ex
  exact se_call F (hr.mono hl) hg hm hk hb ha hp kk hdb he hpl
theorem se_fn0 {lv lc : Nat} {ps : List Str} {S : FS} {x : Str} {p : Pos} (G : FnB X.prog X.w X.K X.mg X.base lc x ps [] k S) (hr : Room lv X.A) (hg : Gl X x) (hl : lc ≤ lv := by decide) (kk : k = .fz ∨ k = .nw := by first | exact .inl rfl | exact .inr rfl) (hdb : (x == ("__debug__" : Str)) = false := by decide) :
    SE X κ M k (.Call (.Name x p) [] [] pos) (wCall S waNil) := by
  obtain ⟨f, fd, F, hm, hk, hb⟩ := G.ex
  exact se_call0 F (hr.mono hl) hg hm hk hb kk hdb
/-- a new list of three ints is handed over as a pool -/
def wNp (a : WE) : WE := fun e Q => a e fun d e1 => ∃ x y z : Int, d = .list [.int x, .int y, .int z] ∧ Q .none e1
theorem se_np (h : SE X κ M .nw e w) : SE X κ M .np e (wNp w) := SE.of h fun σ H Q ⟨g, env, W, F, hw, post⟩ => ⟨g, env, _, F, hw, fun v H' g' env' d F' s ⟨p, e1, n, hO, hP, r⟩ ⟨x, y, z, ed, wd⟩ => by
  subst ed
  refine post v H' g' env' .none F' s ⟨p, e1, n, hO, hP, ?_, rfl⟩ wd
  cases r with
  | lst e zl al =>
    cases al with | cons r1 al => cases al with | cons r2 al => cases al with | cons r3 al => cases al with | nil =>
    exact ⟨x, y, z, by rw [e, r1.toInt, r2.toInt, r3.toInt]⟩⟩
def NpA : List RK → List V → Addr → Prop
  | k :: ks, v :: vs, a => (k = .np ∧ v = .ref a) ∨ NpA ks vs a
  | _, _, _ => False
def passN1 : RK → PM → Bool
  | .fz, .fz => true
  | .fz, .rd => true
  | .rd, .rd => true
  | .ow _, .rd => true
  | .pl, .pl => true
  | .np, .pl => true
  | _, _ => false
def passN : List RK → List PM → Bool
  | [], [] => true
  | k :: ks, m :: ms => passN1 k m && passN ks ms
  | _, _ => false
theorem npA_facts {K : PySem.W.Frag} {g : Rg} {H0 H : Hp} {a : Addr} : ∀ {ks : List RK} {vs : List V} {ds : List D}, ResA K g H0 H ks vs ds → NpA ks vs a → H0 a = none ∧ g.O a ∧ ¬ g.P a ∧ Pool H a
  | [], [], [], _, h => h.elim
  | k :: ks, v :: vs, d :: ds, r, h => by
    rcases h with ⟨rfl, rfl⟩ | h
    · obtain ⟨p, e, n, hO, hP, hp, _⟩ := r.1
      cases e
      exact ⟨n, hO, hP, hp⟩
    · exact npA_facts r.2 h
  | [], [], _ :: _, r, _ => r.elim
  | [], _ :: _, _, r, _ => r.elim
  | _ :: _, [], _, r, _ => r.elim
  | _ :: _, _ :: _, [], r, _ => r.elim
theorem args_np {K : PySem.W.Frag} {κ : List SK} {g : Rg} {env : En} {σ : St} {H0 H : Hp} {N : Addr → Prop} (f : Frm K κ g env σ H) (hN : ∀ a, N a → H0 a = none ∧ g.O a) (hI : ∀ a, g.I a → H0 a ≠ none) : ∀ {ks : List RK} {ms : List PM} {vs : List V} {ds : List D}, passN ks ms = true → (∀ a, NpA ks vs a → N a) → ResA K g H0 H ks vs ds → ArgsOk K H g.own (fun a => g.P a ∨ N a) ms vs ds
  | [], [], [], [], _, _, _ => trivial
  | k :: ks, m :: ms, v :: vs, d :: ds, hp, hn, h => by
    simp only [passN, Bool.and_eq_true] at hp
    refine ⟨?_, args_np f hN hI hp.2 (fun a q => hn a (.inr q)) h.2⟩
    have h1 := h.1
    have hp1 := hp.1
    cases k with
    | fz => cases m <;> first | exact h1 | exact .inl h1 | simp [passN1] at hp1
    | rd => cases m <;> first | exact h1.imp id (fun ⟨a, e, np, hi, q⟩ => ⟨a, e, fun z => z.elim np fun z => hI a hi (hN a z).1, .inl (f.il a hi), q⟩) | simp [passN1] at hp1
    | nw => cases m <;> simp [passN1] at hp1
    | ow i => cases m <;> first | (obtain ⟨p, e, ea, q⟩ := h1; exact .inr ⟨p, e, fun z => z.elim (fun z => (f.alo i p ea).1 (f.pl p z).1) fun z => (f.alo i p ea).1 (hN p z).2, .inr ⟨i, ea⟩, q.r⟩) | simp [passN1] at hp1
    | pl => cases m <;> first | (obtain ⟨a, e, p, q⟩ := h1; exact ⟨a, e, .inl p, q⟩) | simp [passN1] at hp1
    | np => cases m <;> first | (obtain ⟨p, e, _, _, _, _, q⟩ := h1; exact ⟨p, e, .inr (hn p (.inl ⟨rfl, e⟩)), q⟩) | simp [passN1] at hp1
  | [], _ :: _, _, _, hp, _, _ => by simp [passN] at hp
  | _ :: _, [], _, _, hp, _, _ => by simp [passN] at hp
  | [], [], [], _ :: _, _, _, h => h.elim
  | [], [], _ :: _, _, _, _, h => h.elim
  | _ :: _, _ :: _, [], _, _, _, h => h.elim
  | _ :: _, _ :: _, _ :: _, [], _, _, h => h.elim
theorem se_fnN {lv lc : Nat} {ps : List Str} {ms : List PM} {S : FS} {x : Str} {p : Pos} {e : Expr} {es : List Expr} {ks : List RK} {wl : WA} (G : FnB X.prog X.w X.K X.mg X.base lc x ps ms k S) (hr : Room lv X.A) (hg : Gl X x) (ha : SA X κ M ks (e :: es) wl) (hl : lc ≤ lv := by decide)
    (hp : passN ks ms = true := by rfl) (kk : k = .fz ∨ k = .nw := by first | exact .inl rfl | exact .inr rfl) (hdb : (x == ("__debug__" : Str)) = false := by decide)
    (he : starEach (e :: es) X.env = (false, eval e X.env) :: starEach es X.env := by rfl) (hpl : (backTo pos (starEach es X.env)).any (·.1) = false := by rfl) : SE X κ M k (.Call (.Name x p) (e :: es) [] pos) (wCall S wl) := by
  obtain ⟨f, fd, F, hm, hk, hb⟩ := G.ex
  refine SE.of (pe_call (E := E0) F (hr.mono hl) hg hm hk hb .nil pass0 ha hdb he hpl) fun σ H Q ⟨g, env, W, Fr0, hw, post⟩ => ⟨g, env, _, Fr0, hw, fun vs H1 g1 e1 ds F1 s1 r1 w1 => ?_⟩
  show spOf X.K ms k S (vs ++ []) H1 Q E0
  rw [List.append_nil]
  have nf : ∀ a, NpA ks vs a → _ := fun a q => npA_facts r1 q
  refine ⟨g1.own, fun a => g1.P a ∨ NpA ks vs a, ds, _, fun a q => F1.own_tk q, fun a q => q.elim (fun q => ⟨F1.p_own q, (F1.pl a q).2⟩) fun q => ⟨.inl (nf a q).2.1, (nf a q).2.2.2⟩,
    args_np F1 (fun a q => ⟨(nf a q).1, (nf a q).2.1⟩) (fun a q => Fr0.ot a (Fr0.il a (by rw [← s1.I]; exact q))) hp (fun a q => q) r1, w1, fun v H2 d wd kp pl rc => ?_⟩
  -- the frame with the handed lists as pools
  have F1' : Frm X.K κ { g1 with P := fun a => g1.P a ∨ NpA ks vs a } e1 σ H1 := by
    refine ⟨F1.ln, F1.sl, fun j d' ej => ?_, F1.inj, F1.alo', F1.ot', F1.il, fun a q => q.elim (F1.pl a) fun q => ⟨(nf a q).2.1, (nf a q).2.2.2⟩⟩
    obtain ⟨v', e1, s'⟩ := F1.ev j d' ej
    refine ⟨v', e1, ?_⟩
    cases hkj : kindOf κ j <;> rw [hkj] at s' <;> unfold SlotK at s' ⊢ <;> simp only at s' ⊢
    · exact s'
    · rcases s' with s' | ⟨a, rfl, np', na, s'⟩
      · exact .inl s'
      · exact .inr ⟨a, rfl, fun q => q.elim np' fun z => Fr0.ot a (Fr0.il a (by rw [← s1.I]; exact na)) (nf a z).1, na, s'⟩
    · exact s'
    · exact s'
    · obtain ⟨a, rfl, q, s'⟩ := s'; exact ⟨a, rfl, .inl q, s'⟩
    · exact s'
  obtain ⟨g2, F2, s2, r2⟩ := ResC.back (g := { g1 with P := fun a => g1.P a ∨ NpA ks vs a }) F1' kk kp pl rc
  have F3 : Frm X.K κ { g2 with P := g1.P } e1 σ H2 := by
    refine ⟨F2.ln, F2.sl, fun j d' ej => ?_, F2.inj, F2.alo', F2.ot', F2.il, fun a q => F2.pl a (by rw [s2.P]; exact .inl q)⟩
    obtain ⟨v', e1', s'⟩ := F1.ev j d' ej
    obtain ⟨v2, e2', s2'⟩ := F2.ev j d' ej
    refine ⟨v2, e2', ?_⟩
    cases hkj : kindOf κ j <;> rw [hkj] at s2' s' <;> unfold SlotK at s2' s' ⊢ <;> simp only at s2' s' ⊢
    · exact s2'
    · rcases s2' with s2' | ⟨a, rfl, np', na, s2'⟩
      · exact .inl s2'
      · exact .inr ⟨a, rfl, fun q => np' (by rw [s2.P]; exact .inl q), na, s2'⟩
    · exact s2'
    · exact s2'
    · rw [e1'] at e2'; cases e2'
      obtain ⟨a, rfl, q, s'⟩ := s'; exact ⟨a, rfl, q, s'⟩
    · exact s2'
  refine post v H2 { g2 with P := g1.P } e1 d F3 ⟨s2.al.trans s1.al, s1.P, s2.I.trans s1.I, fun a q => s2.up a (s1.up a q), fun a q => ?_, fun b o e np q => ?_, fun b p q => ?_⟩ ?_ wd
  · rcases s2.dn a q with z | z
    · exact s1.dn a z
    · exact .inr (s1.there Fr0 F1 z)
  · refine kp b o (s1.keep b o e np q) fun z => z.elim (fun z => np (by rw [← s1.P]; exact z)) fun z => ?_
    have := (nf b z).1
    rw [e] at this; cases this
  · exact pl b (.inl (by rw [s1.P]; exact p))
  · rcases kk with rfl | rfl
    · exact r2
    · obtain ⟨p, e, n, hO, hP, ob⟩ := r2
      exact ⟨p, e, s1.there Fr0 F1 n, hO, fun z => hP (by rw [s2.P]; exact .inl z), ob⟩
theorem noq {κ : List SK} (h : κ.all (· != .q) = true) (i : Nat) : kindOf κ i ≠ .q := by
  unfold kindOf
  cases e : κ[i]? with
  | none => simp
  | some k =>
    have := List.all_eq_true.mp h k (List.mem_of_getElem? e)
    simpa using this
theorem room65 {lv : Nat} {A : Around} (hr : Room lv A) : A.units + 65 < cLine := by have := hr.un; omega
/-! list * number -/
def rRepR : R2 := fun x y H Q => ∃ l k xs, x = .ref l ∧ y = .int k ∧ Rd H l (.lst xs) ∧ -(2 ^ 63) ≤ k ∧ k < 2 ^ 63 ∧ xs.length * k.toNat ≤ sizeLine ∧ ∀ p, H p = none → Q (.ref p) (upd H p (.lst (List.replicate k.toNat xs).flatten))
theorem op_repR : OpR X (binaryOp .Mult) rRepR := by
  intro pins s σ H x y v u Q I rx ry h
  obtain ⟨l, k, xs, rfl, rfl, hH, h1, h2, hz, q⟩ := h
  cases rx
  obtain ⟨t, rfl⟩ := ry
  obtain ⟨z, its, n, r, e⟩ := hH.ok I.hok
  have hl := r.length
  have hlen : its.toArray.size * k.toNat ≤ sizeLine := by rw [List.size_toArray, ← hl]; exact hz
  have hcap : ¬ its.toArray.size * k.toNat > (2 ^ 63 - 1) / 8 := by
    have : (sizeLine : Nat) ≤ (2 ^ 63 - 1) / 8 := by decide
    omega
  have hfit : ¬ (!Builtin.List.listFitsIndex k) = true := by
    rw [fitsIndex_both h1 h2]
    exact Bool.false_ne_true
  have hlong : ¬ Builtin.List.listTooLong (its.toArray.size * k.toNat) = true := by
    rw [notLongL hlen]
    exact Bool.false_ne_true
  have hnew : List.foldl (fun x1 x2 => x1 ++ x2) #[] (List.replicate (if its.toArray.isEmpty = true then 0 else k.toNat) its.toArray) = (List.replicate k.toNat its).flatten.toArray := by
    have f0 : ∀ m : Nat, List.foldl (fun x1 x2 => x1 ++ x2) #[] (List.replicate m its.toArray) = (List.replicate m its).flatten.toArray := fun m => by
      have := foldl_rep its m []
      rw [List.nil_append] at this
      exact this
    rw [f0]
    cases its with
    | nil => simp
    | cons a r' => rw [if_neg (by simp)]
  refine wpAny_binaryOp_repeat_ref (T := "list") (U := "int") (by decide) ⟨_, e, rfl⟩ (fun s' => typeIs_int s' k t) noFill_list_mul F.fills_int_mul F.slot_int_rmul repeat_list F.slot_int_index.lookup
    (call_meets F.slot_int_rmul (typeIs_int s k t) F.entry_int_rmul (F.args_int_rmul_2 _ _) (int___rmul___int_list k t l its.toArray n)
      ⟨e, rfl, ⟨_, e, rfl⟩, call_meets F.slot_list_mul ⟨_, e, rfl⟩ F.entry_list_mul (F.args_list_mul_2 _ _) (AutoListH.list___mul___list_int_3 l its.toArray n k t hfit hcap hlong) ⟨e, ?_⟩⟩)
  rw [hnew]
  exact ⟨.ref _, _, I.lnew (t' := s.toks) (r.rep k.toNat) (by rw [PyProof.Rows.lm_len_rep_flat, Nat.mul_comm]; exact hz), rfl, q _ I.fresh⟩
def repLD : D → D → Option D
  | .list a, .int k => if a.length ≤ 1000 ∧ -1000 ≤ k ∧ k ≤ 1000 then some (.list (List.replicate k.toNat a).flatten) else none
  | _, _ => none
theorem od_rep {K : PySem.W.Frag} : OpD K rRepR repLD .nw := by
  intro κ g env σ H x y dx dy dz Q F rx ry e h
  match dx, dy, e, rx, ry with
  | .list ds, .int m, e, rx, ry =>
    simp only [repLD] at e
    split at e
    · rename_i hl
      cases e
      obtain ⟨a, xs, rfl, ra, za, la⟩ := rx.toLst
      rw [ry.toInt]
      obtain ⟨h1, h2, h3⟩ := hl
      rw [← la.length] at h1
      have hz : xs.length * m.toNat ≤ sizeLine := Nat.le_trans (Nat.mul_le_mul h1 (show m.toNat ≤ 1000 by omega)) (by rw [sizeLine_eq]; decide)
      exact ⟨a, m, xs, rfl, rfl, ra, by omega, by omega, hz, fun p np => ok_lstN F (la.rep _) (by rw [PyProof.Rows.lm_len_rep_flat, Nat.mul_comm]; exact hz) np h⟩
    · cases e
def mulID : D → D → Option D
  | .int i, .int j => if okMul i j = true then some (.int (i * j)) else none
  | _, _ => none
theorem od_mulI {K : PySem.W.Frag} : OpD K (rI CMul fun i j => .int (i * j)) mulID .fz := by
  intro κ g env σ H x y dx dy dz Q F rx ry e h
  cases dx <;> cases dy <;> simp only [mulID] at e <;> first
    | (split at e
       · rename_i hm
         cases e; rw [rx.toInt, ry.toInt]; exact ⟨_, _, rfl, rfl, by simpa [okMul, CMul] using hm, ok_same F (.int _) h⟩
       · cases e)
    | cases e
/-! list(range(..)) -/
def wLstRg (it : WI) : WE := fun e Q => it e fun xs e1 => Q (.list xs) e1
theorem rg_rep {K : PySem.W.Frag} {H : Hp} {S : Addr → Prop} (a b : Int) : RepAll K H S (rgV a b) (rangeD a b) := by
  unfold rgV rangeD
  induction (List.range (b - a).toNat) with
  | nil => exact .nil
  | cons x r ih => exact .cons (.int _) ih
theorem se_lstRg1 {p p2 pos2 : Pos} (hg : Gl X "list") (hm : X.mg "list" = none) (hg2 : Gl X "range") (hm2 : X.mg "range" = none) (ha : SE X κ M ka a wa) (pa : ka.rdable = true := by rfl) (na : starEach [.Call (.Name "range" p2) [a] [] pos2] X.env = (false, eval (.Call (.Name "range" p2) [a] [] pos2) X.env) :: starEach [] X.env := by rfl)
    (na2 : starEach [a] X.env = (false, eval a X.env) :: starEach [] X.env := by rfl) (hc : X.calm = true := by rfl) : SE X κ M .nw (.Call (.Name "list" p) [.Call (.Name "range" p2) [a] [] pos2] [] pos) (wLstRg (wiRg1 wa)) :=
  SE.of (pe_listRg hc hg hm (prg_1 hg2 hm2 ha na2) na) fun σ H Q ⟨g, env, W, F, hw, post⟩ => ⟨g, env, _, F, hw, fun v H1 g1 e1 d F1 s1 r1 ⟨n, e, hn0, hn, w1⟩ => by
    subst e
    have ev := (r1.rdb pa).toInt
    subst ev
    have hl := lim_eq
    refine ⟨n, rfl, ⟨by omega, by omega, by omega, by omega, by omega⟩, fun q nq => ok_lstN F1 (rg_rep 0 n) (by rw [rgV_length, sizeLine_eq]; omega) nq fun v H2 g2 F2 s2 r2 => ?_⟩
    exact post v H2 g2 e1 _ F2 (s1.tr (s2.mono fun _ q => nomatch q) F F1) (r2.back fun p q => s1.there F F1 q) w1⟩
/-! pools -/
def wPlIx (i : Nat) : WE := fun e Q => e[i]? = some (some .none) ∧ ∀ x : Int, Q (.int x) e
theorem se_plix {i : Nat} {x : Str} {px p2 : Pos} {c : Int} {j : Nat} (ho : PE X (.Name x px) (tVar i)) (hk : kindOf κ i = .p) (hc : c = 0 ∨ c = 1 ∨ c = 2 := by decide) (hx : PlainIx (.Constant (.int c) j p2) := by exact fun _ _ => rfl) : SE X κ M .fz (.Subscript (.Name x px) (.Constant (.int c) j p2) pos) (wPlIx i) :=
  SE.of (pe_ix ix_list ho pe_int hx) fun σ H Q ⟨g, env, W, F, ⟨he, hw⟩, post⟩ => by
    obtain ⟨v, sv, sl⟩ := F.ev i _ he
    rw [hk] at sl
    obtain ⟨q, rfl, hp, _⟩ := sl
    obtain ⟨_, x0, x1, x2, hH⟩ := F.pl q hp
    have fin : ∀ y : Int, Q (.int y) H := fun y => post _ H g env _ F .refl (.int y) (hw y)
    rcases hc with rfl | rfl | rfl
    · exact ⟨_, sv, q, _, 0, .int x0, rfl, rfl, .inl (.inl hH), rfl, fin x0⟩
    · exact ⟨_, sv, q, _, 1, .int x1, rfl, rfl, .inl (.inl hH), rfl, fin x1⟩
    · exact ⟨_, sv, q, _, 2, .int x2, rfl, rfl, .inl (.inl hH), rfl, fin x2⟩
def wPlSet (i : Nat) (a : WE) : WS := fun W e => a e fun d e1 => ∃ y : Int, d = .int y ∧ e1[i]? = some (some .none) ∧ W.nx e1
theorem Frm.poolSet {K : PySem.W.Frag} {g : Rg} {env : En} {σ : St} {H : Hp} {q : Addr} {xs : List V} (F : Frm K κ g env σ H) (hp : g.P q) (hx : ∃ x y z : Int, xs = [.int x, .int y, .int z]) : Frm K κ g env σ (L2.upd H q (.lst xs)) :=
  F.next (fun b o e np => by rw [upd_ne (fun z => np (by rw [z]; exact hp))]; exact e) (fun b p => by
    by_cases hb : b = q
    · subst hb
      obtain ⟨x, y, z, e⟩ := hx
      exact ⟨x, y, z, by rw [upd_same, e]⟩
    · obtain ⟨x, y, z, e⟩ := (F.pl b p).2
      exact ⟨x, y, z, by rw [upd_ne hb]; exact e⟩) rfl rfl rfl (fun a p => (F.pl a p).1) F.il fun a q => .inl q
theorem ss_plset {i : Nat} {x : Str} {px p2 spos : Pos} {c : Int} {j : Nat} (ho : PE X (.Name x px) (tVar i)) (hv : SE X κ Me .fz e w) (hk : kindOf κ i = .p) (hc : c = 0 ∨ c = 1 ∨ c = 2 := by decide) (sub : ∀ i ∈ Me, i ∈ M := by decide)
    (ha : ∀ v, assign (.Subscript (.Name x px) (.Constant (.int c) j p2) spos) X.env v = (do
      let ov ← holding [v] (eval (.Name x px) X.env)
      let iv ← holding [v, ov] (eval (.Constant (.int c) j p2) X.env)
      standAt spos
      holding [v, ov, iv] (setItem ov iv v)
      release [v, ov, iv] []) := by intro _; rfl) (hs : swapsWithSole [.Subscript (.Name x px) (.Constant (.int c) j p2) spos] e pos.line X.env = pure false := by rfl) (hw : swappedStores [.Subscript (.Name x px) (.Constant (.int c) j p2) spos] e X.env = pure none := by rfl)
    (h1 : (assignEach [.Subscript (.Name x px) (.Constant (.int c) j p2) spos] X.env).map (·.2) = [assign (.Subscript (.Name x px) (.Constant (.int c) j p2) spos) X.env] := by rfl) : SS X κ M k (.Assign [.Subscript (.Name x px) (.Constant (.int c) j p2) spos] e pos) (wPlSet i w) :=
  SS.of (ps_asg hv (pg_sub ho pe_int set_list ha) hs hw h1) fun D σ H ⟨g, env, W, F, hw, n, b, _, r⟩ => ⟨g, env, _, F, hw, fun v H1 g1 e1 d F1 s1 r1 ⟨y, ed, he, w1⟩ => by
    subst ed
    have ev : v = .int y := Rep.toInt r1
    subst ev
    obtain ⟨v0, sv, sl⟩ := F1.ev i _ he
    rw [hk] at sl
    obtain ⟨q, rfl, hp, _⟩ := sl
    obtain ⟨_, x0, x1, x2, hH⟩ := F1.pl q hp
    have go : ∀ xs : List V, (∃ x y z : Int, xs = [.int x, .int y, .int z]) → D.nx σ (upd H1 q (.lst xs)) := fun xs hx => by
      have F2 := F1.poolSet hp hx
      refine n g1 e1 σ _ F2 (((s1.mono sub).toS F F1).trans ⟨fun _ q => q, fun _ q => .inl q, fun _ q => q, fun _ q => .inl q, fun _ _ q => .inl q, rfl, fun _ _ => rfl, fun b o e np _ => by rw [upd_ne (fun z => np (by rw [z]; exact hp))]; exact e, fun b nb => ?_, fun b p => (F2.pl b p).2⟩) w1
      by_cases hb : b = q
      · subst hb; rw [upd_same]; simp
      · rw [upd_ne hb]; exact nb
    rcases hc with rfl | rfl | rfl
    · exact ⟨_, sv, q, _, 0, 0, rfl, rfl, hH, rfl, go _ ⟨y, x1, x2, rfl⟩⟩
    · exact ⟨_, sv, q, _, 1, 1, rfl, rfl, hH, rfl, go _ ⟨x0, y, x2, rfl⟩⟩
    · exact ⟨_, sv, q, _, 2, 2, rfl, rfl, hH, rfl, go _ ⟨x0, x1, y, rfl⟩⟩⟩
end
/-! built-in names -/
theorem bt_len : bootBuiltins "len" = some (.builtin "len") := by decide +kernel
theorem bt_all : bootBuiltins "all" = some (.builtin "all") := by decide +kernel
theorem bt_any : bootBuiltins "any" = some (.builtin "any") := by decide +kernel
theorem bt_sum : bootBuiltins "sum" = some (.builtin "sum") := by decide +kernel
theorem bt_max : bootBuiltins "max" = some (.builtin "max") := by decide +kernel
theorem bt_min : bootBuiltins "min" = some (.builtin "min") := by decide +kernel
theorem bt_abs : bootBuiltins "abs" = some (.builtin "abs") := by decide +kernel
theorem bt_sorted : bootBuiltins "sorted" = some (.builtin "sorted") := by decide +kernel
theorem bt_tuple : bootBuiltins "tuple" = some (.type "tuple") := by decide +kernel
theorem bt_list : bootBuiltins "list" = some (.type "list") := by decide +kernel
theorem bt_int : bootBuiltins "int" = some (.type "int") := by decide +kernel
theorem bt_bool : bootBuiltins "bool" = some (.type "bool") := by decide +kernel
theorem bt_str : bootBuiltins "str" = some (.type "str") := by decide +kernel
theorem bt_dict : bootBuiltins "dict" = some (.type "dict") := by decide +kernel
theorem kt_int : (["NoneType", "bool", "int", "str", "list", "tuple", "dict"].all fun t => kitB t "int" == some (isT "int" t)) = true := by decide +kernel
theorem kt_bool : (["NoneType", "bool", "int", "str", "list", "tuple", "dict"].all fun t => kitB t "bool" == some (isT "bool" t)) = true := by decide +kernel
theorem kt_tuple : (["NoneType", "bool", "int", "str", "list", "tuple", "dict"].all fun t => kitB t "tuple" == some (isT "tuple" t)) = true := by decide +kernel
theorem kt_list : (["NoneType", "bool", "int", "str", "list", "tuple", "dict"].all fun t => kitB t "list" == some (isT "list" t)) = true := by decide +kernel
theorem kt_str : (["NoneType", "bool", "int", "str", "list", "tuple", "dict"].all fun t => kitB t "str" == some (isT "str" t)) = true := by decide +kernel
/-! the end -/
def noList (K : PySem.W.Frag) : Bool := K.all fun p => !(p.2.cls == .type "list")
theorem no_list {K : PySem.W.Frag} (h : noList K = true) {a : Addr} {o : Obj} (e : K.lookup a = some o) : o.cls ≠ .type "list" := by
  induction K with
  | nil => simp at e
  | cons p r ih =>
    unfold noList at h
    simp only [List.all_cons, Bool.and_eq_true] at h
    obtain ⟨b, ob⟩ := p
    rw [List.lookup_cons] at e
    split at e
    · cases e
      intro z
      have := h.1
      simp only [z] at this
      revert this; decide +kernel
    · exact ih h.2 e
theorem law_sp {K : PySem.W.Frag} (hn : noList K = true) {H : Hp} {a : Addr} {ns : List Int} (hl : ns.length ≤ 63) (h : SqL K H a (ns.map V.int)) : spOf K [.rd] .fz lawS [.ref a] H (fun v _ => v = .bl true) fun _ _ _ => False := by
  rcases h with h | ⟨o, its, n, e, c, _⟩
  · refine ⟨fun _ => False, fun _ => False, [.list (ns.map .int)], fun d => d = .bool true, fun _ q => q.elim, fun _ q => q.elim, ⟨.inl (script_rep h hl), trivial⟩, ⟨ns, rfl, hl, rfl⟩, fun v H' d pd _ _ r => ?_⟩
    subst pd
    exact Rep.toBl r
  · exact absurd c (no_list hn e)
theorem law_walk {l : PySem.W.OpenLaw} {k : Nat} {q : Program} {loose : List Str} {XP : (Str → Option Value) → Heap → Prop} {YP : World → Heap → Prop} {d : DefRec} {K : Params → PySem.W.Frag}
    (hn : l.most = some 63) (hdf : d.params.defaults = []) (hr : Room k callerA) (hY : ∀ (w : World) (h : Heap), YP w h → (K w.params).In h) (hK : ∀ w : World, noList (K w.params) = true)
    (F : ∀ (w : World) (mg : Str → Option Value) (fa : Addr) (h : Heap), (K w.params).In h → h.Ns mainGlobals mg → mg d.name = some (.ref fa) →
      ∃ fd : FuncData, (∀ (s : Shared) (u : Value), BindsTo s fd ⟨[u], []⟩ [("script", u)]) ∧ ∀ base : Heap, (K w.params).In base → base.Ns mainGlobals mg → FnOk l.prog w (K w.params) mg base CX0 k fa fd ["script"] (spOf (K w.params) [.rd] .fz lawS)) :
    PySem.W.WalkO q loose XP YP l.row.toRowW d [] (fun f vs => PySem.call f vs) :=
  L2.walk_of (n := 63) (k := k) (x := "script") (CX := fun _ => CX0) (sp := fun w => spOf (K w.params) [.rd] .fz lawS) hn (by decide) hdf hr hY F (fun w _ a ns hl _ hS => law_sp (hK w) hl hS) fun _ _ _ _ _ z => z
end G7

set_option maxRecDepth 100000
/-! tuples known whole; index and count; reversed, enumerate -/
namespace G7
open PySem PySem.Spec PyProof.Rows L2
section
variable {X : Cx}
def rTupX (K : PySem.W.Frag) : List V → Hp → VK → Prop := fun xs H Q => ∃ p ys, xs = [.ref p] ∧ SqL K H p ys ∧ ∀ l o, H l = none → o.dict = none → Q (.ref l) (upd H l (.frz o (.tup ys)))
theorem call_tupleX : CallR X (.type "tuple") (rTupX X.K) := by
  intro pins s σ H xs us Q I r h
  obtain ⟨p, ys, rfl, hq, q⟩ := h
  obtain ⟨u, rfl, rx⟩ := vals1 r
  cases rx
  obtain ⟨its, r', pl, hz⟩ := I.list hq
  have hlen := r'.length
  refine call_tuple_list pl.isList (fun h' kp => ?_) (by simp only [List.size_toArray] <;> omega)
  have I1 : Inv X pins σ H { s with heap := h' } := I.kept (t' := s.toks) kp
  have I2 : Inv X pins σ (upd H h'.objs.size (.frz { cls := .type "tuple", data := .seq its.toArray } (.tup ys))) { s with heap := h'.push { cls := .type "tuple", data := .seq its.toArray } } :=
    I1.laid (t' := s.toks) (fun b o e => Heap.get?_push_of_some _ e) (Nat.le_refl _) (show ObjOk X.prog X.w _ _ _ (.frz _ (.tup ys)) from ⟨Heap.get?_push_size _ rfl, hz, its, r', IsTup.new _ _⟩)
  exact ⟨.ref h'.objs.size, _, I2, rfl, q _ _ (I1.hok.fresh (Nat.le_refl _)) rfl⟩
def tupXD : List D → Option D
  | [.list xs] => some (xtD xs)
  | _ => none
theorem bd_tupX {K : PySem.W.Frag} : BlD K (rTupX K) tupXD .fz := by
  intro κ g env σ H vs ds dz Q F r e h
  match ds, r, e with
  | [.list zs], r, e =>
    cases e
    obtain ⟨v, rfl, r1⟩ := rda1 r
    obtain ⟨a, ys, rfl, ra, za, la⟩ := r1.toLst
    refine ⟨a, ys, rfl, .inl ra, fun l o nl ho => h _ _ g (F.new0 nl) (.new0 nl) (.xt (fun q => F.own_ne q nl) upd_same ho za (la.keep (fun a o _ e => same_new nl a o e) fun _ q => .inl q))⟩
variable {κ : List SK} {M Ma : List Nat} {k ka kb : RK} {e a b : Expr} {w wa wb : WE}
/-! a method of a list or of a tuple known whole -/
def LT (K : PySem.W.Frag) (x : V) (H : Hp) (T : String) : Prop := ∃ a, x = .ref a ∧ ((T = "list" ∧ ∃ xs, SqL K H a xs) ∨ (T = "tuple" ∧ ∃ o u, H a = some (.frz o (.tup u)) ∧ o.dict = none))
theorem lt_is {pins : List (Addr × Obj)} {σ : St} {H : Hp} {s : Shared} {T : String} {x : V} {v : Value} (I : Inv X pins σ H s) (r : RelV x v) (ty : LT X.K x H T) :
    s.TypeIs v T ∧ ∀ a, v = .ref a → ∃ ob, s.heap.get? a = some ob ∧ ob.dict = none := by
  obtain ⟨a, rfl, ⟨rfl, xs, h⟩ | ⟨rfl, o, u, h, hd⟩⟩ := ty
  · exact tyV_is I r (.inl ⟨rfl, xs, h⟩)
  · cases r
    obtain ⟨e, z, its, rv, o', e', hc, n, hdt⟩ := I.hok a _ h
    rw [e] at e'; cases e'
    exact ⟨⟨o, e, hc⟩, fun b eb => by cases eb; exact ⟨o, e, hd⟩⟩
def tBM2 (K : PySem.W.Frag) (r1 r2 : V → List V → Hp → VK → Prop) (to : TE) (t : TA) : TE := fun σ H Q => to σ H fun x H1 => (LT K x H1 "list" ∧ t σ H1 fun xs H2 => r1 x xs H2 Q) ∨ (LT K x H1 "tuple" ∧ t σ H1 fun xs H2 => r2 x xs H2 Q)
theorem pe_bm2 {name : Str} {id1 id2 : String} {r1 r2 : V → List V → Hp → VK → Prop} {to : TE} {t : TA} {o e : Expr} {es : List Expr} {apos cpos : Pos} (slot1 : Slot "list" name id1) (slot2 : Slot "tuple" name id2) (hty1 : typeOf (.builtin id1) = pure (.type "method_descriptor")) (hty2 : typeOf (.builtin id2) = pure (.type "method_descriptor")) (hm1 : MtR X id1 r1) (hm2 : MtR X id2 r2) (ho : PE X o to) (ha : PA X (e :: es) t)
    (hbase : attributeBase o name X.env (eval o X.env) = eval o X.env := by rfl)
    (hfew : ((backTo cpos (starEach (e :: es) X.env)).all (fun x => !x.1) && (backToKw cpos (keywordEach [] X.env)).all (fun x => x.1.isSome)
      && decide ((e :: es).length + ([] : List Keyword).length + (if ([] : List Keyword).isEmpty then 0 else 1) < 30)) = true := by rfl)
    (hline : (apos.endLine == cpos.line) = true := by rfl) (hs : starEach (e :: es) X.env = (false, eval e X.env) :: starEach es X.env := by rfl) (hplain : (backTo cpos (starEach es X.env)).any (·.1) = false := by rfl) :
    PE X (.Call (.Attribute o name apos) (e :: es) [] cpos) (tBM2 X.K r1 r2 to t) := by
  refine ⟨fun pins s σ H Q I h => ?_⟩
  refine wpAny_Call_method_late hbase hfew hline rfl (thn (ho.run pins s σ H _ I h) fun v s1 ⟨x, H1, I1, r1, h1⟩ => ?_)
  rcases h1 with ⟨ty, q1⟩ | ⟨ty, q1⟩
  · obtain ⟨h1, h2⟩ := lt_is I1 r1 ty
    refine ⟨"list", id1, PySem.F.plainAttrs_list, slot1, hty1, h1, h2, ?_⟩
    have hA := ha.run cpos pins s1 σ H1 _ I1 q1
    rw [hs] at hA ⊢
    refine Calls.callWith_builtin (by show (false || (backTo cpos (starEach es X.env)).any (·.1)) = false; rw [hplain] <;> rfl) (Calls.evalArgs_plain ?_)
    exact thn hA fun us s2 ⟨vs, H2, I2, r2, q2⟩ => hm1 pins s2 σ H2 x vs v us Q I2 r1 r2 q2
  · obtain ⟨h1, h2⟩ := lt_is I1 r1 ty
    refine ⟨"tuple", id2, PySem.F.plainAttrs_tuple, slot2, hty2, h1, h2, ?_⟩
    have hA := ha.run cpos pins s1 σ H1 _ I1 q1
    rw [hs] at hA ⊢
    refine Calls.callWith_builtin (by show (false || (backTo cpos (starEach es X.env)).any (·.1)) = false; rw [hplain] <;> rfl) (Calls.evalArgs_plain ?_)
    exact thn hA fun us s2 ⟨vs, H2, I2, r2, q2⟩ => hm2 pins s2 σ H2 x vs v us Q I2 r1 r2 q2
def rTIndexD (K : PySem.W.Frag) : V → List V → Hp → VK → Prop := fun x xs H Q => ∃ (a : Addr) (y : V) (d : PyData) (ds : List PyData) (j : Nat) (z : PyData), x = V.ref a ∧ xs = [y] ∧ Dp K H (V.ref a) (.tuple ds) ∧ Dp K H y d ∧
  SeqAt.shaped (.tuple ds) = true ∧ SeqAt.shaped d = true ∧ ds[j]? = some z ∧ PyData.eqv z d = true ∧ (∀ (m : Nat) (z' : PyData), m < j → ds[m]? = some z' → PyData.eqv z' d = false) ∧ Q (.int (j : Nat)) H
theorem mt_tindexD (hu : X.A.units + 65 < cLine) : MtR X "tuple.index" (rTIndexD X.K) := by
  intro pins s σ H x xs v us Q I rx rxs h
  obtain ⟨a, y, d, ds, j, z, rfl, rfl, hl, hy, sl, sd, hz, hzj, hno, q⟩ := h
  cases rx
  obtain ⟨uy, rfl, ry⟩ := vals1 rxs
  obtain ⟨bs, r1⟩ := Dp.reads I d y uy hy ry
  have hxs : PyData.canLayAll0 ds = true := by
    have := SeqAt.canLay_of_shaped sl
    simpa [PyData.canLay0] using this
  have hroom : X.A.units + 1 + min (PyData.depthAll ds) d.depth < cLine := room_in_shaped sd hu
  cases hl with
  | tup hs ha =>
    obtain ⟨its, rv, ⟨⟨cls, dd, data, sls⟩, ho, hc, n, hdt⟩, hlen⟩ := I.tuple hs
    simp only at hc hdt
    subst hc hdt
    obtain ⟨as, h4⟩ := Dp.readsAll I ds _ its ha rv
    have hn : its.length = ds.length := SeqAt.ReadsAll.length ds its as h4
    have hmap : its.map (SeqAt.readOf s.heap) = ds := SeqAt.readsAll_map ds its as hxs h4
    have hvl := rv.length
    obtain ⟨hjd, _⟩ := List.getElem?_eq_some_iff.mp hz
    have hjl : j < its.length := by omega
    have hj : j < its.toArray.size := by simpa using hjl
    have at_ : ∀ (m : Nat) (hm : m < its.toArray.size) (z' : PyData), ds[m]? = some z' → SeqAt.readOf s.heap its.toArray[m] = z' := by
      intro m hm z' hz'
      have hml : m < its.length := by simpa using hm
      rw [← hmap, List.getElem?_map, List.getElem?_eq_getElem hml] at hz'
      have e1 : SeqAt.readOf s.heap its[m] = z' := Option.some.inj (show some (SeqAt.readOf s.heap its[m]) = some z' from hz')
      simpa using e1
    refine call_meets PySem.F.slot_tuple_index ⟨_, ho, rfl⟩ PySem.F.entry_tuple_index (PySem.F.args_tuple_index_2 _ _)
      (TI.tuple_indexAt a its.toArray n dd sls uy (fun u => PyData.eqv (SeqAt.readOf s.heap u) d) j hj ?_ ?_) ⟨ho, SeqAt.items_eqAt (vs := its.toArray) (show ReadsAll s.heap its.toArray.toList ds as from h4) r1 hxs (SeqAt.canLay_of_shaped sd) hroom, ?_⟩
    · show PyData.eqv (SeqAt.readOf s.heap its.toArray[j]) d = true
      rw [at_ j hj z hz]
      exact hzj
    · intro m hm hmj
      have hmd : m < ds.length := by omega
      have hz' : ds[m]? = some ds[m] := List.getElem?_eq_getElem hmd
      show PyData.eqv (SeqAt.readOf s.heap its.toArray[m]) d = false
      rw [at_ m hm _ hz']
      exact hno m _ hmj hz'
    · exact ⟨.int (j : Nat), H, I.tok _, ⟨_, rfl⟩, q⟩
/-- the first place at which it stands -/
def idxD (xs : List D) (d : D) : Option D := (xs.findIdx? fun z => PyData.eqv z d).map fun (j : Nat) => PyData.int (j : Int)
def indexD : D → D → Option D
  | .list xs, d => if okD (.list xs) = true ∧ okD d = true then idxD xs d else none
  | .dict [(.none, .tuple xs)], d => if okD (.tuple xs) = true ∧ okD d = true then idxD xs d else none
  | _, _ => none
theorem idxD_some {xs : List D} {d z : D} (h : idxD xs d = some z) : ∃ (j : Nat) (y : D), z = .int (j : Int) ∧ xs[j]? = some y ∧ PyData.eqv y d = true ∧ ∀ (m : Nat) (y' : D), m < j → xs[m]? = some y' → PyData.eqv y' d = false := by
  unfold idxD at h
  rw [Option.map_eq_some_iff] at h
  obtain ⟨j, hj, rfl⟩ := h
  rw [List.findIdx?_eq_some_iff_getElem] at hj
  obtain ⟨hlt, h1, h2⟩ := hj
  refine ⟨j, xs[j], rfl, List.getElem?_eq_getElem hlt, h1, fun m y' hm hy' => ?_⟩
  obtain ⟨hm2, e⟩ := List.getElem?_eq_some_iff.mp hy'
  have := h2 m hm
  rw [e] at this
  simpa using this
theorem indexD_some {d1 d2 z : D} (h : indexD d1 d2 = some z) : ∃ xs, ((d1 = .list xs ∧ okD (.list xs) = true) ∨ (d1 = xtD xs ∧ okD (.tuple xs) = true)) ∧ okD d2 = true ∧ idxD xs d2 = some z := by
  unfold indexD at h
  split at h
  · split at h
    · rename_i q; exact ⟨_, .inl ⟨rfl, q.1⟩, q.2, h⟩
    · cases h
  · split at h
    · rename_i q; exact ⟨_, .inr ⟨rfl, q.1⟩, q.2, h⟩
    · cases h
  · cases h
def wIdx (f : D → D → Option D) (a b : WE) : WE := fun e Q => a e fun x e1 => ((∃ xs, x = .list xs) ∨ ∃ xs, x = xtD xs) ∧ b e1 fun y e2 => ∃ z, f x y = some z ∧ Q z e2
@[simp] theorem r_idx {f : D → D → Option D} {a b : WE} {e : En} {Q : D → En → Prop} : wIdx f a b e Q = a e fun x e1 => ((∃ xs, x = .list xs) ∨ ∃ xs, x = xtD xs) ∧ b e1 fun y e2 => ∃ z, f x y = some z ∧ Q z e2 := rfl
theorem se_index {p1 p2 : Pos} (hu : X.A.units + 65 < cLine) (ha : SE X κ M ka a wa) (hb : SE X κ M kb b wb) (hs : stable ka M = true := by rfl) (pa : ka.rdable = true := by rfl) (pb : kb.rdable = true := by rfl)
    (hbase : attributeBase a "index" X.env (eval a X.env) = eval a X.env := by rfl)
    (hfew : ((backTo p2 (starEach [b] X.env)).all (fun x => !x.1) && (backToKw p2 (keywordEach [] X.env)).all (fun x => x.1.isSome)
      && decide ([b].length + ([] : List Keyword).length + (if ([] : List Keyword).isEmpty then 0 else 1) < 30)) = true := by rfl)
    (hline : (p1.endLine == p2.line) = true := by rfl) (hst : starEach [b] X.env = (false, eval b X.env) :: starEach [] X.env := by rfl) (hplain : (backTo p2 (starEach [] X.env)).any (·.1) = false := by rfl) :
    SE X κ M .fz (.Call (.Attribute a "index" p1) [b] [] p2) (wIdx indexD wa wb) :=
  SE.of (pe_bm2 (name := "index") PySem.F.slot_list_index PySem.F.slot_tuple_index PySem.F.type_list_index PySem.F.type_tuple_index (mt_indexD hu) (mt_tindexD hu) ha (pa_cons hb pa_nil hst) hbase hfew hline hst hplain)
    fun σ H Q ⟨g, env, W, F, hw, post⟩ => ⟨g, env, _, F, hw, fun x H1 g1 e1 d1 F1 s1 r1 w1 => by
      obtain ⟨hd1, w1⟩ := w1
      have q0 := r1.rdb pa
      rcases hd1 with ⟨xs, rfl⟩ | ⟨xs, rfl⟩
      · left
        obtain ⟨a0, ys, e0, h0, _, _⟩ := q0.toLst
        refine ⟨⟨a0, e0, .inl ⟨rfl, ys, .inl h0⟩⟩, g1, e1, _, F1, w1, fun y H2 g2 e2 d2 F2 s2 r2 ⟨z, ez, wz⟩ => ?_⟩
        have q1 := (r1.step s2 F1 hs).rdb pa
        obtain ⟨xs', hx, o2, ei⟩ := indexD_some ez
        rcases hx with ⟨hx, o1⟩ | ⟨hx, _⟩
        · cases hx
          obtain ⟨j, yy, rfl, h1, h2, h3⟩ := idxD_some ei
          refine ⟨a0, y, d2, xs, j, yy, e0, rfl, ?_, (r2.rdb pb).dp o2, o1, o2, h1, h2, h3, post _ H2 g2 e2 _ F2 (s1.tr s2 F F1) (.int _) wz⟩
          rw [← e0]; exact q1.dp o1
        · cases hx
      · right
        have h0 : Rep X.K H1 g1.own x (xtD xs) := by
          rcases q0 with q | ⟨a, _, q⟩
          · exact q
          · exact q.noXt.elim
        obtain ⟨a0, o0, ys, e0, n0, h0, d0, z0, _⟩ := h0.toXt
        refine ⟨⟨a0, e0, .inr ⟨rfl, o0, ys, h0, d0⟩⟩, g1, e1, _, F1, w1, fun y H2 g2 e2 d2 F2 s2 r2 ⟨z, ez, wz⟩ => ?_⟩
        have q1 := (r1.step s2 F1 hs).rdb pa
        obtain ⟨xs', hx, o2, ei⟩ := indexD_some ez
        rcases hx with ⟨hx, _⟩ | ⟨hx, o1⟩
        · cases hx
        · cases hx
          obtain ⟨j, yy, rfl, h1, h2, h3⟩ := idxD_some ei
          have q2 : Rep X.K H2 g2.own x (xtD xs) := by
            rcases q1 with q | ⟨a, _, q⟩
            · exact q
            · exact q.noXt.elim
          refine ⟨a0, y, d2, xs, j, yy, e0, rfl, ?_, (r2.rdb pb).dp o2, o1, o2, h1, h2, h3, post _ H2 g2 e2 _ F2 (s1.tr s2 F F1) (.int _) wz⟩
          have hc : (PyData.tuple xs).canLay0 = true := SeqAt.canLay_of_shaped o1
          obtain ⟨a1, o, vs, e2', n, e, _, z, al⟩ := q2.toXt
          rw [← e0, e2']
          exact .tup (sqT_of (.inl ⟨n, .inr ⟨o, e⟩⟩)) (al.dp (by simpa [PyData.canLay0] using hc))⟩
end
end G7

set_option maxRecDepth 100000
/-! dicts whose keys are numbers (or texts) -/
namespace G7
open PySem PySem.Spec PyProof.Rows L2
/-- is this the key -/
def keyB (k : Key) (d : D) : Bool := match k, d with
  | .inl i, .int j => decide (j = i)
  | .inr x, .str y => decide (y = x)
  | _, _ => false
theorem keyB_kD (k k' : Key) : keyB k (kD k') = decide (k' = k) := by
  cases k <;> cases k' <;> simp [keyB, kD]
def lookD (m : List (D × D)) (k : Key) : Option D := (m.find? fun p => keyB k p.1).map (·.2)
def putDD (m : List (D × D)) (k : Key) (v : D) : List (D × D) := if (m.any fun p => keyB k p.1) = true then m.map (fun p => if keyB k p.1 = true then (p.1, v) else p) else m ++ [(kD k, v)]
section
variable {K : PySem.W.Frag} {H : Hp} {S : Addr → Prop}
theorem look_rep (k : Key) : ∀ {kvs : List (Key × V)} {ds : List D}, RepAll K H S (kvs.map (·.2)) ds → (∀ d, lookD ((kvs.map fun p => kD p.1).zip ds) k = some d → ∃ v, valV kvs k = some v ∧ Rep K H S v d) ∧ (valV kvs k).isSome = (lookD ((kvs.map fun p => kD p.1).zip ds) k).isSome
  | [], _, .nil => ⟨fun d h => by simp [lookD] at h, rfl⟩
  | p :: kvs, _, .cons r t => by
    obtain ⟨h1, h2⟩ := look_rep k t
    by_cases e : p.1 = k
    · have : keyB k (kD p.1) = true := by rw [keyB_kD]; simp [e]
      refine ⟨fun d h => ?_, ?_⟩
      · simp [lookD, List.find?_cons, this] at h
        subst h
        exact ⟨_, valV_pos e, r⟩
      · rw [valV_pos e]; simp [lookD, List.find?_cons, this]
    · have : keyB k (kD p.1) = false := by rw [keyB_kD]; simp [e]
      rw [valV_neg e]
      refine ⟨fun d h => h1 d ?_, ?_⟩
      · simp [lookD, List.find?_cons, this] at h ⊢
        exact h
      · rw [h2]; simp [lookD, List.find?_cons, this]
theorem any_keys (k : Key) : ∀ {kvs : List (Key × V)} {ds : List D}, (kvs.length = ds.length) → (((kvs.map fun p => kD p.1).zip ds).any fun p => keyB k p.1) = kvs.any fun kv => decide (kv.1 = k)
  | [], _, _ => by simp
  | p :: kvs, [], h => by simp at h
  | p :: kvs, d :: ds, h => by
    have := any_keys k (kvs := kvs) (ds := ds) (by simpa using h)
    simp only [List.map_cons, List.zip_cons_cons, List.any_cons, keyB_kD, this]
theorem put_rep {k : Key} {v : V} {d : D} (rv : Rep K H S v d) {kvs : List (Key × V)} {ds : List D} (al : RepAll K H S (kvs.map (·.2)) ds) :
    ∃ ds', RepAll K H S ((putK kvs k v).map (·.2)) ds' ∧ ((putK kvs k v).map fun p => kD p.1).zip ds' = putDD ((kvs.map fun p => kD p.1).zip ds) k d := by
  have hl : kvs.length = ds.length := by simpa using al.length
  unfold putK putDD
  rw [any_keys k hl]
  by_cases h : (kvs.any fun kv => decide (kv.1 = k)) = true
  · rw [if_pos h, if_pos h]
    have key : ∀ {kvs : List (Key × V)} {ds : List D}, RepAll K H S (kvs.map (·.2)) ds → ∃ ds', RepAll K H S ((kvs.map fun kv => if kv.1 = k then (kv.1, v) else kv).map (·.2)) ds' ∧ ((kvs.map fun kv => if kv.1 = k then (kv.1, v) else kv).map fun p => kD p.1).zip ds' = ((kvs.map fun p => kD p.1).zip ds).map fun p => if keyB k p.1 = true then (p.1, d) else p := by
      intro kvs
      induction kvs with
      | nil => intro ds al; cases al; exact ⟨[], .nil, rfl⟩
      | cons p kvs ih =>
        intro ds al
        cases al with
        | @cons _ _ d0 _ r t =>
          obtain ⟨ds', h1, h2⟩ := ih t
          by_cases e : p.1 = k
          · refine ⟨d :: ds', ?_, ?_⟩
            · simp only [List.map_cons, if_pos e]; exact .cons rv h1
            · simp only [List.map_cons, List.zip_cons_cons, if_pos e, keyB_kD, h2]; simp [e]
          · refine ⟨d0 :: ds', ?_, ?_⟩
            · simp only [List.map_cons, if_neg e]; exact .cons r h1
            · simp only [List.map_cons, List.zip_cons_cons, if_neg e, keyB_kD, h2]; simp [e]
    exact key al
  · rw [if_neg h, if_neg h]
    refine ⟨ds ++ [d], ?_, ?_⟩
    · rw [List.map_append]; exact al.append (.cons rv .nil)
    · rw [List.map_append, List.zip_append (by simpa using hl)]; rfl
end
def keyOf : D → Option Key
  | .int i => some (.inl i)
  | .str x => some (.inr x)
  | _ => none
/-- the marks of other dicts -/
def plainM : List (D × D) → Bool
  | (.none, _) :: _ => false
  | _ => true
def dgetD : D → D → Option D
  | .dict m, y => if plainM m = true then (keyOf y).bind fun k => lookD m k else none
  | _, _ => none
def dinD : D → D → Option D
  | y, .dict m => if plainM m = true then (keyOf y).map fun k => .bool (lookD m k).isSome else none
  | _, _ => none
def dninD : D → D → Option D
  | y, .dict m => if plainM m = true then (keyOf y).map fun k => .bool (!(lookD m k).isSome) else none
  | _, _ => none
def wDput (i : Nat) (v ix : WE) : WS := fun W e => v e fun y e1 => (∃ m, e1[i]? = some (some (.dict m)) ∧ plainM m = true) ∧ ix e1 fun j e2 => ∃ k m, keyOf j = some k ∧ e2[i]? = some (some (.dict m)) ∧ plainM m = true ∧ m.length < lim ∧ W.nx (e2.set i (some (.dict (putDD m k y))))
@[simp] theorem r_dput {i : Nat} {v ix : WE} {W : WD} {e : En} : wDput i v ix W e = v e fun y e1 => (∃ m, e1[i]? = some (some (.dict m)) ∧ plainM m = true) ∧ ix e1 fun j e2 => ∃ k m, keyOf j = some k ∧ e2[i]? = some (some (.dict m)) ∧ plainM m = true ∧ m.length < lim ∧ W.nx (e2.set i (some (.dict (putDD m k y)))) := rfl
section
variable {K : PySem.W.Frag} {H : Hp} {S : Addr → Prop} {a : Addr}
theorem Rep.toDK {v : V} {m : List (D × D)} (r : Rep K H S v (.dict m)) (hm : plainM m = true) : ∃ a kvs ds, v = .ref a ∧ ¬ S a ∧ H a = some (.dK kvs) ∧ RepAll K H S (kvs.map (·.2)) ds ∧ m = (kvs.map fun p => kD p.1).zip ds := by
  cases r with
  | dK n r al => exact ⟨_, _, _, rfl, n, r, al, rfl⟩
  | dT n r al => cases hm
  | xt n r e z al => cases hm
theorem ObjR.toDK {m : List (D × D)} (r : ObjR K H S a (.dict m)) (hm : plainM m = true) : ∃ kvs ds, H a = some (.dK kvs) ∧ RepAll K H S (kvs.map (·.2)) ds ∧ m = (kvs.map fun p => kD p.1).zip ds := by
  cases r with
  | dK r al => exact ⟨_, _, r, al, rfl⟩
  | dT r al => cases hm
theorem RdB.toDK {v : V} {m : List (D × D)} (r : RdB K H S v (.dict m)) (hm : plainM m = true) : ∃ a kvs ds, v = .ref a ∧ H a = some (.dK kvs) ∧ RepAll K H S (kvs.map (·.2)) ds ∧ m = (kvs.map fun p => kD p.1).zip ds := by
  rcases r with r | ⟨a, rfl, r⟩
  · obtain ⟨a, kvs, ds, e, _, h⟩ := r.toDK hm; exact ⟨a, kvs, ds, e, h⟩
  · obtain ⟨kvs, ds, h⟩ := r.toDK hm; exact ⟨a, kvs, ds, rfl, h⟩
theorem Obj1.toDK {m : List (D × D)} (r : Obj1 K H S a (.dict m)) (hm : plainM m = true) : ∃ kvs ds, H a = some (.dK kvs) ∧ RepAll K H S (kvs.map (·.2)) ds ∧ m = (kvs.map fun p => kD p.1).zip ds := r.r.toDK hm
theorem keyOf_v {y : V} {d : D} {k : Key} (r : RdB K H S y d) (h : keyOf d = some k) : y = kV k := by
  cases d <;> simp [keyOf] at h
  · subst h; exact r.toInt
  · subst h; exact r.toStr
end
section
variable {X : Cx} {κ : List SK} {M Me : List Nat} {k ka kb : RK} {a b e : Expr} {w wa wb : WE} {pos : Pos}
theorem se_dnew : SE X κ M .nw (.Dict [] [] pos) (wC (.dict [])) := SE.of pe_dnewK fun σ H Q ⟨g, env, W, F, hw, post⟩ => fun p np => by
  refine post _ _ (g.add p) env _ (F.new np) (.new np) ⟨p, rfl, np, .inr rfl, fun q => F.own_ne (F.p_own q) np, ?_⟩ hw
  have := Obj1.dK (K := X.K) (H := upd H p (.dK [])) (S := (g.add p).own) (a := p) (kvs := []) (ds := []) upd_same .nil
  exact this
theorem se_dget (hu : X.A.units + 1 < cLine) (ha : SE X κ M ka a wa) (hb : SE X κ M kb b wb) (hn : NoSl b) (hs : stable ka M = true := by rfl) (pa : ka.rdable = true := by rfl) (pb : kb.rdable = true := by rfl) : SE X κ M .fz (.Subscript a b pos) (wOp2 dgetD wa wb) :=
  SE.of (pe_dget hu ha hb hn) fun σ H Q ⟨g, env, W, F, hw, post⟩ => ⟨g, env, _, F, hw, fun x H1 g1 e1 d1 F1 s1 r1 w1 => ⟨g1, e1, _, F1, w1, fun y H2 g2 e2 d2 F2 s2 r2 w2 => by
    obtain ⟨z, ez, wz⟩ := w2
    cases d1 with
    | dict m =>
      simp only [dgetD] at ez
      split at ez
      · rename_i hm
        rw [Option.bind_eq_some_iff] at ez
        obtain ⟨k, hk, ez⟩ := ez
        obtain ⟨p, kvs, ds, rfl, hp, al, rfl⟩ := ((r1.step s2 F1 hs).rdb pa).toDK hm
        obtain ⟨v, hv, rv⟩ := (look_rep k al).1 z ez
        refine ⟨p, v, rfl, ?_, post v H2 g2 e2 z F2 (s1.tr s2 F F1) rv wz⟩
        rw [keyOf_v (r2.rdb pb) hk, ← hv]; exact DGet.k hp
      · cases ez
    | _ => cases ez⟩⟩
theorem din_go (hs : stable ka M = true) (pa : ka.rdable = true) (pb : kb.rdable = true) (g0 : Bool → Bool) (f : D → D → Option D) (hf : ∀ y m z, f y (.dict m) = some z → plainM m = true ∧ ∃ k, keyOf y = some k ∧ z = .bool (g0 (lookD m k).isSome)) (hf2 : ∀ y d z, f y d = some z → ∃ m, d = .dict m)
    {σ : St} {H : Hp} {Q : VK} (h : cE X.K κ M .fz (wOp2 f wa wb) σ H Q) : cE X.K κ M ka wa σ H fun y H1 => cE X.K κ M kb wb σ H1 fun x H2 => ∃ a o, x = .ref a ∧ DGet H2 a y o ∧ Q (.bl (g0 o.isSome)) H2 := by
  obtain ⟨g, env, W, F, hw, post⟩ := h
  refine ⟨g, env, _, F, hw, fun y H1 g1 e1 d1 F1 s1 r1 w1 => ⟨g1, e1, _, F1, w1, fun x H2 g2 e2 d2 F2 s2 r2 w2 => ?_⟩⟩
  obtain ⟨z, ez, wz⟩ := w2
  obtain ⟨m, rfl⟩ := hf2 _ _ _ ez
  obtain ⟨hm, k, hk, rfl⟩ := hf _ _ _ ez
  obtain ⟨p, kvs, ds, rfl, hp, al, rfl⟩ := (r2.rdb pb).toDK hm
  refine ⟨p, valV kvs k, rfl, ?_, ?_⟩
  · rw [keyOf_v ((r1.step s2 F1 hs).rdb pa) hk]; exact DGet.k hp
  · rw [(look_rep k al).2]
    exact post _ H2 g2 e2 _ F2 (s1.tr s2 F F1) (.bl _) wz
theorem din_f : (∀ y m z, dinD y (.dict m) = some z → plainM m = true ∧ ∃ k, keyOf y = some k ∧ z = .bool (id (lookD m k).isSome)) ∧ ∀ y d z, dinD y d = some z → ∃ m, d = .dict m := by
  refine ⟨fun y m z h => ?_, fun y d z h => ?_⟩
  · simp only [dinD] at h
    split at h
    · rename_i hm
      rw [Option.map_eq_some_iff] at h
      obtain ⟨k, hk, rfl⟩ := h
      exact ⟨hm, k, hk, rfl⟩
    · cases h
  · cases d <;> first | exact ⟨_, rfl⟩ | (unfold dinD at h; cases h)
theorem dnin_f : (∀ y m z, dninD y (.dict m) = some z → plainM m = true ∧ ∃ k, keyOf y = some k ∧ z = .bool (not (lookD m k).isSome)) ∧ ∀ y d z, dninD y d = some z → ∃ m, d = .dict m := by
  refine ⟨fun y m z h => ?_, fun y d z h => ?_⟩
  · simp only [dninD] at h
    split at h
    · rename_i hm
      rw [Option.map_eq_some_iff] at h
      obtain ⟨k, hk, rfl⟩ := h
      exact ⟨hm, k, hk, rfl⟩
    · cases h
  · cases d <;> first | exact ⟨_, rfl⟩ | (unfold dninD at h; cases h)
/-- a test whose truth is a value's -/
theorem ST.ofB {c : Expr} {t : TE} (h : PT X c (tB t)) (s : ∀ σ H Q, cE X.K κ M .fz w σ H Q → t σ H Q) : ST X κ M c (tVal w) :=
  ST.of h fun σ H Q ⟨g, env, W, F, hw, post⟩ => by
    refine s σ H _ ⟨g, env, _, F, hw, fun v H' g' env' d F' st r ⟨b, eb, wb⟩ => ?_⟩
    subst eb
    exact ⟨b, r.toBl, post b H' g' env' F' st wb⟩
theorem st_din (hu : X.A.units + 1 < cLine) (ha : SE X κ M ka a wa) (hb : SE X κ M kb b wb) (hm : behindInMarks .In b = false) (hs : stable ka M = true := by rfl) (pa : ka.rdable = true := by rfl) (pb : kb.rdable = true := by rfl) : ST X κ M (.Compare a [.In] [b] pos) (tVal (wOp2 dinD wa wb)) :=
  ST.ofB (pt_cmp (pc_din hu ha hb) hm) fun σ H Q h => din_go hs pa pb id dinD din_f.1 din_f.2 h
theorem st_dnin (hu : X.A.units + 1 < cLine) (ha : SE X κ M ka a wa) (hb : SE X κ M kb b wb) (hm : behindInMarks .NotIn b = false) (hs : stable ka M = true := by rfl) (pa : ka.rdable = true := by rfl) (pb : kb.rdable = true := by rfl) : ST X κ M (.Compare a [.NotIn] [b] pos) (tVal (wOp2 dninD wa wb)) :=
  ST.ofB (pt_cmp (pc_dnotin hu ha hb) hm) fun σ H Q h => din_go hs pa pb not dninD dnin_f.1 dnin_f.2 h
theorem se_din (hu : X.A.units + 1 < cLine) (ha : SE X κ M ka a wa) (hb : SE X κ M kb b wb) (hm : behindInMarks .In b = false) (hs : stable ka M = true := by rfl) (pa : ka.rdable = true := by rfl) (pb : kb.rdable = true := by rfl) : SE X κ M .fz (.Compare a [.In] [b] pos) (wOp2 dinD wa wb) :=
  SE.of (pe_cmp (pc_din hu ha hb) hm) fun σ H Q h => din_go hs pa pb id dinD din_f.1 din_f.2 h
theorem se_dnin (hu : X.A.units + 1 < cLine) (ha : SE X κ M ka a wa) (hb : SE X κ M kb b wb) (hm : behindInMarks .NotIn b = false) (hs : stable ka M = true := by rfl) (pa : ka.rdable = true := by rfl) (pb : kb.rdable = true := by rfl) : SE X κ M .fz (.Compare a [.NotIn] [b] pos) (wOp2 dninD wa wb) :=
  SE.of (pe_cmp (pc_dnotin hu ha hb) hm) fun σ H Q h => din_go hs pa pb not dninD dnin_f.1 dnin_f.2 h
theorem le65 {n : Nat} (h : n + 65 < cLine) : n + 1 < cLine := by omega
theorem putDD_len (m : List (D × D)) (k : Key) (v : D) : (putDD m k v).length ≤ m.length + 1 := by
  unfold putDD; split <;> simp
/-- d[k] = v, an own dict -/
theorem ss_dput {i : Nat} {x : Str} {px spos : Pos} {ix : Expr} {kx rk : RK} {wx : WE} (hu : X.A.units + 1 < cLine) (ho : PE X (.Name x px) (tVar i)) (hv : SE X κ Me .fz e w) (hx : SE X κ Me kx ix wx) (hk : kindOf κ i = .o ∨ kindOf κ i = .q) (px' : kx.rdable = true := by rfl) (hi : i ∈ M := by decide) (sub : ∀ i ∈ Me, i ∈ M := by decide)
    (hs : swapsWith e (some (.Subscript (.Name x px) ix spos)) pos.line X.env = pure false := by rfl) : SS X κ M rk (.Assign [.Subscript (.Name x px) ix spos] e pos) (wDput i w wx) :=
  SS.of (ps_dput hu ho hx hv hs) fun D σ H ⟨g, env, W, F, hw, n, b, c, r⟩ => ⟨g, env, _, F, hw, fun v H1 g1 e1 d F1 s1 r1 ⟨⟨m0, e0, hm0⟩, w1⟩ => by
    obtain ⟨v0, sv, sl⟩ := F1.ev i _ e0
    have sl' : ∃ a, v0 = .ref a ∧ g1.al i = some a ∧ Obj1 X.K H1 g1.own a (.dict m0) := by rcases hk with hk | hk <;> rw [hk] at sl <;> exact sl
    obtain ⟨a, rfl, ea, ob⟩ := sl'
    refine ⟨_, sv, g1, e1, _, F1, w1, fun y H2 g2 e2 d2 F2 s2 r2 ⟨kk, m, ed, e3, hm, hlen, w2⟩ => ?_⟩
    have ey : y = kV kk := keyOf_v (r2.rdb px') ed
    subst ey
    obtain ⟨v1, sv1, sl1⟩ := F2.ev i _ e3
    rw [sv] at sv1; cases sv1
    have sl1' : ∃ a', V.ref a = .ref a' ∧ g2.al i = some a' ∧ Obj1 X.K H2 g2.own a' (.dict m) := by rcases hk with hk | hk <;> rw [hk] at sl1 <;> exact sl1
    obtain ⟨a', ee, ea1, ob1⟩ := sl1'
    cases ee
    have rv : Rep X.K H2 g2.own v d := Res.step (k := .fz) (H0 := H) r1 s2 F1 rfl
    obtain ⟨kvs, ds, hp, al, rfl⟩ := ob1.toDK hm
    have hkl : kvs.length < sizeLine := by
      have := al.length
      rw [List.length_zip, List.length_map, ← this, List.length_map, Nat.min_self] at hlen
      exact Nat.lt_of_lt_of_le hlen (by rw [sizeLine_eq]; decide)
    refine ⟨a, _, rfl, DPut.k hp hkl, ?_⟩
    have off : ∀ b x, ¬ g2.own b → H2 b = some x → (upd H2 a (.dK (putK kvs kk v))) b = some x := fun b x n e => by
      rw [upd_ne (fun z => n (by rw [z]; exact .inr ⟨i, ea1⟩))]; exact e
    obtain ⟨ds', al', ez⟩ := put_rep (k := kk) (rv.keep off fun _ q => .inl q) (al.keep off fun _ q => .inl q)
    have ob2 : Obj1 X.K (upd H2 a (.dK (putK kvs kk v))) g2.own a (.dict (putDD ((kvs.map fun p => kD p.1).zip ds) kk d)) := by
      rw [← ez]; exact .dK upd_same al'
    have F3 := F2.put (o := .dK (putK kvs kk v)) hk ea1 sv (fun ys z => by rw [hp] at z; cases z) ob2
    have s12 := ((s1.tr s2 F F1).mono sub).tr (.put (o := .dK (putK kvs kk v)) F2 ea1 hi) F F2
    exact n g2 _ σ _ F3 (s12.toS F F3) w2⟩
end
end G7

set_option maxRecDepth 100000
/-! sorted: pairs of numbers too -/
namespace G7
open PySem PySem.Spec PyProof.Rows L2
def rSortedPF (K : PySem.W.Frag) : List V → Hp → VK → Prop := fun vs H Q => ∃ (a : Addr) (xs : List V), vs = [V.ref a] ∧ SqL K H a xs ∧ (∀ x ∈ xs, ∃ t p, x = V.ref t ∧ SqT K H t [.int (p : Int × Int).1, .int p.2]) ∧
  ∀ k : V → Int × Int, (∀ x ∈ xs, ∀ t p, x = V.ref t → SqT K H t [.int (p : Int × Int).1, .int p.2] → k x = p) → ∀ ys p, SrtO.Srtd (ltP k) ys → SrtO.Stb (ltP k) ys xs → H p = none → Q (.ref p) (upd H p (.lst ys))
section
variable {X : Cx}
open Classical in
noncomputable def keyP (K : PySem.W.Frag) (H : Hp) (v : V) : Int × Int := if h : ∃ p t, v = V.ref t ∧ SqT K H t [.int (p : Int × Int).1, .int p.2] then Classical.choose h else (0, 0)
theorem cr_sortedPF : CallR X (.builtin "sorted") (rSortedPF X.K) := by
  intro pins s σ H vs us Q I r h
  obtain ⟨a, xs, rfl, hs, hx, q⟩ := h
  have hk : ∀ v t p, v = V.ref t → SqT X.K H t [.int (p : Int × Int).1, .int p.2] → keyP X.K H v = p := by
    intro v t p e ht
    have h : ∃ p t, v = V.ref t ∧ SqT X.K H t [.int (p : Int × Int).1, .int p.2] := ⟨p, t, e, ht⟩
    unfold keyP
    rw [dif_pos h]
    obtain ⟨t2, e2, h2⟩ := Classical.choose_spec h
    have e3 := V.ref.inj (e.symm.trans e2)
    rw [← e3] at h2
    have := I.tuple_inj h2 ht
    injection this with h1 h2
    injection h2 with h2 _
    injection h1 with h1
    injection h2 with h2
    exact Prod.ext h1 h2
  have q := q (keyP X.K H) fun x _ t p e ht => hk x t p e ht
  generalize keyP X.K H = k at hk q
  obtain ⟨its, rv, hl, hz⟩ := I.list hs
  obtain ⟨u, rfl, ru⟩ := vals1 r
  obtain rfl : u = Value.ref a := ru
  obtain ⟨e1, e2⟩ := refs_back rv fun x m => by
    obtain ⟨t, p, e, _⟩ := hx x m
    exact ⟨t, e⟩
  refine SrtO.sorted_pairsO (k := fun u => k (backV u)) hl.isList (by rw [← rv.length]; exact hz) (fun v hv => ?_) fun h' d out h1 h2 kp hd hn => ?_
  · obtain ⟨t, rfl⟩ := e2 v hv
    have hm : V.ref t ∈ xs := by rw [e1]; exact List.mem_map.mpr ⟨_, hv, rfl⟩
    obtain ⟨t', p, e, ht⟩ := hx _ hm
    cases e
    have hkt : k (backV (Value.ref t)) = p := hk _ t p rfl ht
    obtain ⟨its2, r2, ⟨o, ho, hc, n, hd⟩, _⟩ := I.tuple ht
    obtain ⟨u1, u2, rfl, ri, rj⟩ := vals2 r2
    obtain ⟨t1, rfl⟩ := ri
    obtain ⟨t2, rfl⟩ := rj
    rw [hkt]
    exact ⟨t, o, t1, t2, n, rfl, ho, hc, hd⟩
  · have h3 : ∀ u ∈ out, ∃ a, u = Value.ref a := fun u hu => e2 u (h2.perm.mem_iff.mp hu)
    obtain ⟨n, hn⟩ := hn
    have hb : SrtO.Stb (ltP k) (out.map backV) xs := by
      rw [e1]
      exact SrtO.Stb.map (ltP_swo k) backV h2
    refine ⟨.ref d, upd H d (.lst (out.map backV)), I.laid (t' := s.toks) kp hd ⟨?_, out, n, vals_back h3, hn⟩, rfl, q _ d (SrtO.srtd_map h1) hb (I.hok.fresh hd)⟩
    rw [hb.len]
    exact hz
def rSortedA (K : PySem.W.Frag) : List V → Hp → VK → Prop := fun vs H Q => rSortedI K vs H Q ∨ rSortedPF K vs H Q
theorem cr_sortedA : CallR X (.builtin "sorted") (rSortedA X.K) := by
  intro pins s σ H vs us Q I r h
  rcases h with h | h
  · exact cr_sortedI pins s σ H vs us Q I r h
  · exact cr_sortedPF pins s σ H vs us Q I r h
end
/-! the pairs in order -/
def dP (p : Int × Int) : D := .tuple [.int p.1, .int p.2]
def pairsD : List D → Option (List (Int × Int))
  | [] => some []
  | .tuple [.int i, .int j] :: r => (pairsD r).map ((i, j) :: ·)
  | _ => none
def leP (p q : Int × Int) : Prop := p.1 < q.1 ∨ (p.1 = q.1 ∧ p.2 ≤ q.2)
instance (p q : Int × Int) : Decidable (leP p q) := by unfold leP; exact inferInstance
def insP (x : Int × Int) : List (Int × Int) → List (Int × Int)
  | [] => [x]
  | y :: l => if leP x y then x :: y :: l else y :: insP x l
def psort : List (Int × Int) → List (Int × Int)
  | [] => []
  | x :: l => insP x (psort l)
theorem insP_perm (x : Int × Int) : ∀ l : List (Int × Int), (insP x l).Perm (x :: l)
  | [] => List.Perm.refl _
  | y :: l => by
    unfold insP
    split
    · exact List.Perm.refl _
    · exact ((insP_perm x l).cons y).trans (List.Perm.swap x y l)
theorem psort_perm : ∀ l : List (Int × Int), (psort l).Perm l
  | [] => List.Perm.refl _
  | x :: l => (insP_perm x _).trans ((psort_perm l).cons x)
theorem leP_total {p q : Int × Int} (h : ¬ leP p q) : leP q p := by unfold leP at *; omega
theorem leP_trans {p q r : Int × Int} (h : leP p q) (h2 : leP q r) : leP p r := by unfold leP at *; omega
theorem leP_anti {p q : Int × Int} (h : leP p q) (h2 : leP q p) : p = q := by unfold leP at *; apply Prod.ext <;> omega
theorem insP_sorted (x : Int × Int) : ∀ l : List (Int × Int), l.Pairwise leP → (insP x l).Pairwise leP
  | [], _ => List.pairwise_singleton _ _
  | y :: l, h => by
    have h' := List.pairwise_cons.mp h
    unfold insP
    split
    · rename_i hxy
      refine List.pairwise_cons.mpr ⟨fun z hz => ?_, h⟩
      rcases List.mem_cons.mp hz with e | hz
      · subst e; exact hxy
      · exact leP_trans hxy (h'.1 z hz)
    · rename_i hxy
      refine List.pairwise_cons.mpr ⟨fun z hz => ?_, insP_sorted x l h'.2⟩
      rcases List.mem_cons.mp ((insP_perm x l).mem_iff.mp hz) with e | hz
      · subst e; exact leP_total hxy
      · exact h'.1 z hz
theorem psort_sorted : ∀ l : List (Int × Int), (psort l).Pairwise leP
  | [] => .nil
  | x :: l => insP_sorted x _ (psort_sorted l)
theorem psort_one : ∀ {l m : List (Int × Int)}, l.Perm m → l.Pairwise leP → m.Pairwise leP → l = m
  | [], m, p, _, _ => (p.symm.eq_nil).symm
  | x :: l, [], p, _, _ => absurd p.eq_nil (by simp)
  | x :: l, y :: m, p, hl, hm => by
    have hl' := List.pairwise_cons.mp hl
    have hm' := List.pairwise_cons.mp hm
    have e : x = y := by
      have h1 : x ∈ y :: m := p.mem_iff.mp (by simp)
      have h2 : y ∈ x :: l := p.mem_iff.mpr (by simp)
      rcases List.mem_cons.mp h1 with e | h1
      · exact e
      · rcases List.mem_cons.mp h2 with e | h2
        · exact e.symm
        · exact leP_anti (hl'.1 y h2) (hm'.1 x h1)
    subst e
    rw [psort_one (p.cons_inv) hl'.2 hm'.2]
def sortedAD : List D → Option D
  | [.list xs] => match intsD xs with
    | some ns => some (.list ((isort ns).map .int))
    | none => (pairsD xs).map fun ps => .list ((psort ps).map dP)
  | _ => none
theorem pairsD_map : ∀ {xs : List D} {ps : List (Int × Int)}, pairsD xs = some ps → xs = ps.map dP
  | [], _, h => by simp [pairsD] at h; subst h; rfl
  | x :: xs, ps, h => by
    unfold pairsD at h
    split at h
    · rename_i e; cases e
    · rename_i i j r e
      injection e with e1 e2
      subst e1 e2
      rw [Option.map_eq_some_iff] at h
      obtain ⟨qs, hq, rfl⟩ := h
      rw [pairsD_map hq]; rfl
    · cases h
section
variable {K : PySem.W.Frag} {H : Hp} {S : Addr → Prop}
theorem pairs_keys {k : V → Int × Int} : ∀ {xs : List V} {ps : List (Int × Int)}, RepAll K H S xs (ps.map dP) → (∀ x ∈ xs, ∀ t p, x = V.ref t → SqT K H t [.int (p : Int × Int).1, .int p.2] → k x = p) → xs.map k = ps ∧ (∀ x ∈ xs, Rep K H S x (dP (k x))) ∧ ∀ x ∈ xs, ∃ t p, x = V.ref t ∧ SqT K H t [.int (p : Int × Int).1, .int p.2]
  | [], [], _, _ => ⟨rfl, by simp, by simp⟩
  | [], _ :: _, h, _ => by cases h
  | _ :: _, [], h, _ => by cases h
  | x :: xs, p :: ps, h, hk => by
    cases h with
    | cons r t =>
      obtain ⟨h1, h2, h3⟩ := pairs_keys t fun y hy => hk y (by simp [hy])
      obtain ⟨a, ys, rfl, ra, _, al⟩ := Rep.toTup r
      have e : ys = [.int p.1, .int p.2] := by
        cases al with
        | cons r1 t1 => cases t1 with
          | cons r2 t2 => cases t2; rw [r1.toInt, r2.toInt]
      subst e
      have hx := hk _ (by simp) a p rfl (sqT_of ra)
      refine ⟨by simp [hx, h1], fun y hy => ?_, fun y hy => ?_⟩
      · rcases List.mem_cons.mp hy with e | hy
        · subst e; rw [hx]; exact r
        · exact h2 y hy
      · rcases List.mem_cons.mp hy with e | hy
        · subst e; exact ⟨a, p, rfl, sqT_of ra⟩
        · exact h3 y hy
theorem pairs_refs : ∀ {xs : List V} {ps : List (Int × Int)}, RepAll K H S xs (ps.map dP) → ∀ x ∈ xs, ∃ t p, x = V.ref t ∧ SqT K H t [.int (p : Int × Int).1, .int p.2]
  | [], [], _ => by simp
  | [], _ :: _, h => by cases h
  | _ :: _, [], h => by cases h
  | x :: xs, p :: ps, h => by
    cases h with
    | cons r t =>
      obtain ⟨a, ys, rfl, ra, _, al⟩ := Rep.toTup r
      have e : ys = [.int p.1, .int p.2] := by
        cases al with
        | cons r1 t1 => cases t1 with
          | cons r2 t2 => cases t2; rw [r1.toInt, r2.toInt]
      subst e
      intro y hy
      rcases List.mem_cons.mp hy with e | hy
      · subst e; exact ⟨a, p, rfl, sqT_of ra⟩
      · exact pairs_refs t y hy
theorem repAll_of {k : V → Int × Int} : ∀ {ys : List V}, (∀ x ∈ ys, Rep K H S x (dP (k x))) → RepAll K H S ys ((ys.map k).map dP)
  | [], _ => .nil
  | y :: ys, h => .cons (h y (by simp)) (repAll_of fun x hx => h x (by simp [hx]))
end
theorem bd_sortedA {K : PySem.W.Frag} : BlD K (rSortedA K) sortedAD .nw := by
  intro κ g env σ H vs ds dz Q F r e h
  match ds, e with
  | [.list xs], e =>
    simp only [sortedAD] at e
    split at e
    · rename_i ns e2
      exact .inl (bd_sorted κ g env σ H vs [.list xs] dz Q F r (by simp only [sortedD, e2, Option.map_some]; exact e) h)
    · rename_i e2
      right
      rw [Option.map_eq_some_iff] at e
      obtain ⟨ps, e3, rfl⟩ := e
      obtain ⟨v, rfl, rx⟩ := rda1 r
      obtain ⟨a, ys, rfl, ra, za, la⟩ := rx.toLst
      have := pairsD_map e3
      subst this
      refine ⟨a, ys, rfl, .inl ra, ?_, fun k hk zs p hs hb np => ?_⟩
      · exact pairs_refs la
      · obtain ⟨h1, h2, _⟩ := pairs_keys la hk
        have rz : RepAll K H g.own zs ((zs.map k).map dP) := repAll_of fun x hx => h2 x (hb.perm.mem_iff.mp hx)
        have e : zs.map k = psort ps := by
          refine psort_one ?_ ?_ (psort_sorted ps)
          · refine (hb.perm.map k).trans ?_
            rw [h1]; exact (psort_perm ps).symm
          · rw [List.pairwise_map]
            refine hs.imp fun {x y} hxy => ?_
            have := SrtO.lexB_no.mp hxy
            unfold leP
            omega
        rw [e] at rz
        exact ok_lstN F rz (by rw [hb.len]; exact za) np h
/-! max, min: of tuples too -/
theorem foldl_maxB (x : Int) : ∀ r : List Int, (r.foldl (fun a y => if PySem.W.DatumOrd.lt a y = true then y else a) x) = r.foldl max x
  | [] => rfl
  | y :: r => by
    have : (if PySem.W.DatumOrd.lt x y = true then y else x) = max x y := by
      show (if (decide (x < y)) = true then y else x) = max x y
      rw [Int.max_def]
      by_cases h : x < y
      · have : x ≤ y := by omega
        simp [h, this]
      · by_cases h2 : x ≤ y
        · have : x = y := by omega
          simp [this]
        · simp [h, h2]
    simp only [List.foldl_cons, this]
    exact foldl_maxB _ r
theorem foldl_minB (x : Int) : ∀ r : List Int, (r.foldl (fun a y => if PySem.W.DatumOrd.lt y a = true then y else a) x) = r.foldl min x
  | [] => rfl
  | y :: r => by
    have : (if PySem.W.DatumOrd.lt y x = true then y else x) = min x y := by
      show (if (decide (y < x)) = true then y else x) = min x y
      rw [Int.min_def]
      by_cases h : y < x
      · have : ¬ x ≤ y := by omega
        simp [h, this]
      · have : x ≤ y := by omega
        simp [h, this]
    simp only [List.foldl_cons, this]
    exact foldl_minB _ r
def rMaxT (K : PySem.W.Frag) : List V → Hp → VK → Prop := fun vs H Q => ∃ (a : Addr) (x : Int) (ns : List Int), vs = [V.ref a] ∧ SqT K H a ((x :: ns).map V.int) ∧ Q (.int (ns.foldl max x)) H
def rMinT (K : PySem.W.Frag) : List V → Hp → VK → Prop := fun vs H Q => ∃ (a : Addr) (x : Int) (ns : List Int), vs = [V.ref a] ∧ SqT K H a ((x :: ns).map V.int) ∧ Q (.int (ns.foldl min x)) H
section
variable {X : Cx}
theorem cr_maxT (hc : X.calm = true) (hu : X.A.units + 1 < cLine) : CallR X (.builtin "max") (rMaxT X.K) := by
  intro pins s σ H vs us Q I r h
  obtain ⟨a, x, ns, rfl, hs, q⟩ := h
  obtain ⟨its, rv, hl, _⟩ := I.tuple hs
  rw [Vals.ref1 r]
  refine PySem.W.max_tuple_datum (α := Int) (x := x) (xs := ns) (I.ok.hd hc) hl (PySem.W.HoldAll.of_ints rv.ints) hu fun i v h' tk hi hv hk => ?_
  obtain ⟨t, rfl⟩ := PySem.W.int_of_holds hv
  refine ⟨.int _, H, I.kept hk, ⟨t, rfl⟩, ?_⟩
  unfold PySem.W.maxOf
  rw [foldl_maxB]; exact q
def rMaxA (K : PySem.W.Frag) : List V → Hp → VK → Prop := fun vs H Q => rMax K vs H Q ∨ rMaxT K vs H Q
theorem cr_maxA (hc : X.calm = true) (hu : X.A.units + 1 < cLine) : CallR X (.builtin "max") (rMaxA X.K) := by
  intro pins s σ H vs us Q I r h
  rcases h with h | h
  · exact cr_max hc pins s σ H vs us Q I r h
  · exact cr_maxT hc hu pins s σ H vs us Q I r h
def maxAD : List D → Option D
  | [.list xs] => (intsD xs).bind fun ns => (maxI ns).map .int
  | [.tuple xs] => (intsD xs).bind fun ns => (maxI ns).map .int
  | [.dict [(.none, .tuple xs)]] => (intsD xs).bind fun ns => (maxI ns).map .int
  | _ => none
theorem bd_maxA {K : PySem.W.Frag} : BlD K (rMaxA K) maxAD .fz := by
  intro κ g env σ H vs ds dz Q F r e h
  match ds, e with
  | [.list xs], e => exact .inl (bd_max κ g env σ H vs [.list xs] dz Q F r e h)
  | [.tuple xs], e =>
    right
    simp only [maxAD, Option.bind_eq_some_iff, Option.map_eq_some_iff] at e
    obtain ⟨ns, e2, m, em, rfl⟩ := e
    obtain ⟨v, rfl, rx⟩ := rda1 r
    obtain ⟨a, ys, rfl, ra, za, la⟩ := rx.toTup
    have eb := ints_of la e2
    subst eb
    cases ns with
    | nil => simp [maxI] at em
    | cons x t =>
      simp only [maxI, Option.some.injEq] at em
      refine ⟨a, x, t, rfl, sqT_of ra, ?_⟩
      rw [em]
      exact h _ _ g F .refl (.int _)
  | [.dict [(.none, .tuple xs)]], e =>
    right
    simp only [maxAD, Option.bind_eq_some_iff, Option.map_eq_some_iff] at e
    obtain ⟨ns, e2, m, em, rfl⟩ := e
    obtain ⟨v, rfl, rx⟩ := rda1 r
    obtain ⟨a, ys, rfl, ra, za, la⟩ := rx.toTupO (d := xtD xs) rfl
    have eb := ints_of la e2
    subst eb
    cases ns with
    | nil => simp [maxI] at em
    | cons x t =>
      simp only [maxI, Option.some.injEq] at em
      refine ⟨a, x, t, rfl, sqT_of ra, ?_⟩
      rw [em]
      exact h _ _ g F .refl (.int _)
theorem cr_minT (hc : X.calm = true) (hu : X.A.units + 1 < cLine) : CallR X (.builtin "min") (rMinT X.K) := by
  intro pins s σ H vs us Q I r h
  obtain ⟨a, x, ns, rfl, hs, q⟩ := h
  obtain ⟨its, rv, hl, _⟩ := I.tuple hs
  rw [Vals.ref1 r]
  refine PySem.W.min_tuple_datum (α := Int) (x := x) (xs := ns) (I.ok.hd hc) hl (PySem.W.HoldAll.of_ints rv.ints) hu fun i v h' tk hi hv hk => ?_
  obtain ⟨t, rfl⟩ := PySem.W.int_of_holds hv
  refine ⟨.int _, H, I.kept hk, ⟨t, rfl⟩, ?_⟩
  unfold PySem.W.minOf
  rw [foldl_minB]; exact q
def rMinA (K : PySem.W.Frag) : List V → Hp → VK → Prop := fun vs H Q => rMin K vs H Q ∨ rMinT K vs H Q
theorem cr_minA (hc : X.calm = true) (hu : X.A.units + 1 < cLine) : CallR X (.builtin "min") (rMinA X.K) := by
  intro pins s σ H vs us Q I r h
  rcases h with h | h
  · exact cr_min hc pins s σ H vs us Q I r h
  · exact cr_minT hc hu pins s σ H vs us Q I r h
def minAD : List D → Option D
  | [.list xs] => (intsD xs).bind fun ns => (minI ns).map .int
  | [.tuple xs] => (intsD xs).bind fun ns => (minI ns).map .int
  | [.dict [(.none, .tuple xs)]] => (intsD xs).bind fun ns => (minI ns).map .int
  | _ => none
theorem bd_minA {K : PySem.W.Frag} : BlD K (rMinA K) minAD .fz := by
  intro κ g env σ H vs ds dz Q F r e h
  match ds, e with
  | [.list xs], e => exact .inl (bd_min κ g env σ H vs [.list xs] dz Q F r e h)
  | [.tuple xs], e =>
    right
    simp only [minAD, Option.bind_eq_some_iff, Option.map_eq_some_iff] at e
    obtain ⟨ns, e2, m, em, rfl⟩ := e
    obtain ⟨v, rfl, rx⟩ := rda1 r
    obtain ⟨a, ys, rfl, ra, za, la⟩ := rx.toTup
    have eb := ints_of la e2
    subst eb
    cases ns with
    | nil => simp [minI] at em
    | cons x t =>
      simp only [minI, Option.some.injEq] at em
      refine ⟨a, x, t, rfl, sqT_of ra, ?_⟩
      rw [em]
      exact h _ _ g F .refl (.int _)
  | [.dict [(.none, .tuple xs)]], e =>
    right
    simp only [minAD, Option.bind_eq_some_iff, Option.map_eq_some_iff] at e
    obtain ⟨ns, e2, m, em, rfl⟩ := e
    obtain ⟨v, rfl, rx⟩ := rda1 r
    obtain ⟨a, ys, rfl, ra, za, la⟩ := rx.toTupO (d := xtD xs) rfl
    have eb := ints_of la e2
    subst eb
    cases ns with
    | nil => simp [minI] at em
    | cons x t =>
      simp only [minI, Option.some.injEq] at em
      refine ⟨a, x, t, rfl, sqT_of ra, ?_⟩
      rw [em]
      exact h _ _ g F .refl (.int _)
end
end G7

set_option maxRecDepth 100000
/-! dicts whose keys are tuples of numbers (or texts) -/
namespace G7
open PySem PySem.Spec PyProof.Rows L2
/-! keys gone through, the dict as it stands -/
section
variable {prog : Program} {w : World} {A : Around} {E : Value → Shared → Prop} {s : Shared} {d r : Addr} {o : Obj} {es : Array DictEntry} {ep : Nat}
theorem walks_raw (hh : A.handled = none) (I d : Addr) (hne : d ≠ I) (hdat : o.data = .dict es ep) :
    Walks prog w A I [I, d] [I] es.size (fun i v => ∃ en, es[i]? = some en ∧ v = en.key) (fun i h => h.IsKeyIter I d i es.size ep ∧ h.get? d = some o) where
  sub := fun b hb => by simp at hb; simp [hb]
  frame := fun _ _ _ st hk => ⟨st.1.at fun o e => hk I (by simp) o e, hk d (by simp) _ st.2⟩
  item := fun i s Q E hi st hQ => by
    obtain ⟨en, hen⟩ : ∃ en, es[i]? = some en := ⟨es[i], by simp [hi]⟩
    refine next_key_item st.1 st.2 hdat rfl hen fun h' hit' sb => ?_
    exact hQ en.key h' s.toks ⟨en, hen, rfl⟩ ⟨hit', (sb.2 d hne).trans st.2⟩ fun b o hb e => (sb.2 b (fun h => hb (by simp [h]))).trans e
  done := fun s Q E st hQ => next_key_end hh st.1 st.2 hdat rfl (Nat.le_refl _) fun h' he' => hQ h' s.toks fun b o hb e => he' b o (fun h => hb (by simp [h])) e
  self := fun _ _ _ _ st hQ => wpAny_pyIter_keyiter st.1 hQ
theorem kdr_dict (lo : (d == sysModules) = false) (hx : o.ExactDict) (hdat : o.data = .dict es ep) :
    PySem.W.KdlSrc prog w "dict" d d es.size (fun i v => ∃ en, es[i]? = some en ∧ v = en.key) (fun h => h.get? d = some o) where
  type := fun _ hm => ⟨o, hm, hx.1⟩
  there := fun _ hm => ⟨Heap.lt_size hm, Heap.lt_size hm⟩
  keep := fun _ _ hm hk => hk d (.inl rfl) o hm
  notList := by decide
  notTuple := by decide
  hint := fun _ _ _ _ hm hq => PySem.W.kdl_hint_dict ⟨o, hm, hx.1⟩ hq
  iter := fun _ _ hh hm => ⟨_, _, (fun _ _ hq => iter_keys lo hm hx hdat hq), walks_raw hh _ d (Nat.ne_of_lt (Heap.lt_size hm)) hdat, ⟨⟨_, Heap.get?_push_size _ rfl, rfl, rfl⟩, Heap.get?_push_of_some _ hm⟩⟩
theorem iter_keysV {v : Addr} {Q : Value → Shared → Prop} (hv : PySem.W.KdlKeysView s.heap v d) (ho : s.heap.get? d = some o) (hdat : o.data = .dict es ep)
    (hQ : Q (.ref s.heap.objs.size) { s with heap := s.heap.push { cls := .type "dict_keyiterator", data := .fields #[.ref d, .int 0 0, .int es.size 0, .int ep 0] } }) :
    wpAny (model prog w) A (pyIter (.ref v)) Q E s := by
  obtain ⟨ov, hov, hcv, hdv⟩ := id hv
  refine wpAny_pyIter_slot hv.typeIs PySem.W.kdl_slot_keys_iter (wpAny_call_entry PySem.W.kdl_slot_keys_iter hv.typeIs PySem.W.kdl_entry_keys_iter ?_ (PySem.W.kdl_args_keys_iter _))
  unfold Builtin.«dict_keys.__iter__»
  refine wpAny_bind (wpAny_pure ?_)
  refine wpAny_bind ?_
  unfold Builtin.Dict_items.dictOf
  refine wpAny_bind (wpAny_field hov hdv (x := .ref d) rfl (wpAny_pure ?_))
  refine wpAny_bind ?_
  unfold Builtin.Dict_items.newIterator
  refine wpAny_bind (wpAny_dictEntries ho hdat ?_)
  refine wpAny_bind (wpAny_dictEpoch ho hdat ?_)
  have hown : Builtin.Dict_items.ownsTuple "dict_keyiterator" = false := by decide
  simp only [hown, Bool.false_eq_true, if_false]
  refine wpAny_newObj_type (wpAny_pure ⟨_, rfl, "dict_keyiterator", _, ⟨_, Heap.get?_push_size _ rfl, rfl⟩, PySem.F.slot_dict_keyiterator_next.lookup, ?_⟩)
  simpa [rawInt] using hQ
theorem kdr_keys (hx : o.ExactDict) (hdat : o.data = .dict es ep) :
    PySem.W.KdlSrc prog w "dict_keys" r d es.size (fun i v => ∃ en, es[i]? = some en ∧ v = en.key) (fun h => PySem.W.KdlKeysView h r d ∧ h.get? d = some o) where
  type := fun _ hm => hm.1.typeIs
  there := fun _ hm => ⟨let ⟨_, ho, _⟩ := hm.1; Heap.lt_size ho, Heap.lt_size hm.2⟩
  keep := fun _ _ hm hk => ⟨let ⟨o, ho, x⟩ := hm.1; ⟨o, hk r (.inl rfl) o ho, x⟩, hk d (.inr rfl) o hm.2⟩
  notList := by decide
  notTuple := by decide
  hint := fun _ _ _ _ hm hq => PySem.W.kdl_hint_keys hm.1.typeIs hq
  iter := fun _ _ hh hm => ⟨_, _, (fun _ _ hq => iter_keysV hm.1 hm.2 hdat hq), walks_raw hh _ d (Nat.ne_of_lt (Heap.lt_size hm.2)) hdat, ⟨⟨_, Heap.get?_push_size _ rfl, rfl, rfl⟩, Heap.get?_push_of_some _ hm.2⟩⟩
theorem meets_keysR (hd : (d == sysModules) = false) :
    MeetsIn prog w (Builtin.«dict.keys» ⟨[.ref d], []⟩) (fun _ R s => DT.Raw s.heap d es ep ∧
      R (.ok (.ret (.ref s.heap.objs.size))) { s with heap := s.heap.push { cls := .type "dict_keys", data := .fields #[.ref d] } }) :=
  .of_wp fun A R s ⟨hm, h⟩ => by
    unfold Builtin.«dict.keys»
    refine wpAny_bind ?_
    unfold Builtin.Dict.noArgs
    refine wpAny_bind (wpAny_notOrdered_dict hm.typeIs ?_)
    show wpAny _ _ (pure d) _ _ s
    refine wpAny_pure ?_
    show wpAny _ _ (Builtin.Dict.showsAll d >>= _) _ _ s
    unfold Builtin.Dict.showsAll
    rw [if_neg (by rw [hd]; exact Bool.false_ne_true)]
    refine wpAny_bind (wpAny_pure ?_)
    exact wpAny_bind (wpAny_newObj_type (wpAny_pure ⟨_, rfl, h⟩))
end
/-- the view d.keys() at p -/
def keysO (p d : Addr) : HO := .ext fun h => PySem.W.KdlKeysView h p d
theorem keysO_ok {P : Program} {w : World} {H : Hp} {h : Heap} {p d : Addr} (e : h.get? p = some { cls := .type "dict_keys", data := .fields #[.ref d] }) : ObjOk P w H h p (keysO p d) :=
  ⟨⟨_, e, rfl, rfl⟩, ⟨_, e⟩, fun h1 h2 x k => let ⟨o, ho, r⟩ := x; ⟨o, k o ho, r⟩⟩
section
variable {X : Cx}
def rKeysT : V → List V → Hp → VK → Prop := fun x xs H Q => ∃ (a : Addr) (kvs : List (List L2.Key × V)), x = .ref a ∧ xs = [] ∧ H a = some (.dT kvs) ∧ ∀ p, H p = none → Q (.ref p) (upd H p (keysO p a))
theorem mt_keysT : MtR X "dict.keys" rKeysT := by
  intro pins s σ H x xs v us Q I rx rxs h
  obtain ⟨a, kvs, rfl, rfl, ha, q⟩ := h
  cases rx
  cases rxs
  obtain ⟨z, hd, xs', rel, o, es, ep, ho, hx, hdat, _⟩ := dt_of I.hok ha
  refine call_meetsIn PySem.F.slot_dict_keys (⟨o, ho, hx.1⟩ : s.TypeIs (.ref a) "dict") PySem.F.entry_dict_keys (PySem.F.args_dict_keys_1 _) (meets_keysR (es := es) (ep := ep) hd) ⟨⟨o, ho, hx, hdat⟩, ?_⟩
  have hf : H s.heap.objs.size = none := I.hok.fresh (Nat.le_refl _)
  exact ⟨.ref s.heap.objs.size, upd H s.heap.objs.size (keysO s.heap.objs.size a), I.laid (t' := s.toks) (fun b u e => Heap.get?_push_of_some _ e) (Nat.le_refl _) (keysO_ok (Heap.get?_push_size _ rfl)), rfl, q _ hf⟩
/-- a dict with tuple keys, or the view of its keys -/
def SrcT (H : Hp) (p : Addr) (kvs : List (List L2.Key × V)) : Prop := H p = some (.dT kvs) ∨ ∃ a, H p = some (keysO p a) ∧ H a = some (.dT kvs)
theorem kt_addrs {H : Hp} : ∀ {kvs : List (List L2.Key × V)} {xs : List (List L2.Key × Addr × Value)}, KT H kvs xs → Paired (fun kv q => H q = some (.tup (kv.1.map kV))) kvs (xs.map (·.2.1))
  | [], [], _ => .nil
  | _ :: _, _ :: _, .cons h t => .cons h.2.1 (kt_addrs t)
/-- its keys' addresses -/
theorem SrcT.at' {P : Program} {w : World} {H : Hp} {h : Heap} {p : Addr} {kvs : List (List L2.Key × V)} (g : SrcT H p kvs) (ok : HOk P w H h) : ∃ (T : String) (d : Addr) (n : Nat) (Pv : Nat → Value → Prop) (OK : Heap → Prop) (qs : List Addr),
    PySem.W.KdlSrc P w T p d n Pv OK ∧ OK h ∧ n = qs.length ∧ n ≤ sizeLine ∧ (∀ i v, Pv i v → ∃ q, qs[i]? = some q ∧ v = .ref q) ∧ Paired (fun kv q => H q = some (.tup (kv.1.map kV))) kvs qs := by
  have core : ∀ {d : Addr}, H d = some (.dT kvs) → ∃ (o : Obj) (es : Array DictEntry) (ep : Nat) (qs : List Addr), kvs.length ≤ sizeLine ∧ (d == sysModules) = false ∧ h.get? d = some o ∧ o.ExactDict ∧ o.data = .dict es ep ∧ es.size = qs.length ∧ es.size ≤ sizeLine ∧
      (∀ (i : Nat) en, es[i]? = some en → ∃ q, qs[i]? = some q ∧ en.key = .ref q) ∧ Paired (fun kv q => H q = some (.tup (kv.1.map kV))) kvs qs := by
    intro d hd
    obtain ⟨z, hs, xs, rel, o, es, ep, ho, hx, hdat, he, _⟩ := dt_of ok hd
    refine ⟨o, es, ep, xs.map (·.2.1), z, hs, ho, hx, hdat, ?_, ?_, fun i en hen => ?_, ?_⟩
    · rw [size_of_entries he, List.length_map]
    · have l1 : kvs.length = xs.length := Paired.length rel
      rw [size_of_entries he, ← l1]; exact z
    · rw [entry_at he i] at hen
      obtain ⟨x, hx1, rfl⟩ := Option.map_eq_some_iff.mp hen
      exact ⟨x.2.1, by rw [List.getElem?_map, hx1]; rfl, rfl⟩
    · exact kt_addrs rel
  rcases g with g | ⟨a, g1, g2⟩
  · obtain ⟨o, es, ep, qs, z, hs, ho, hx, hdat, e1, e2, e3, e4⟩ := core g
    exact ⟨_, _, _, _, _, qs, kdr_dict hs hx hdat, ho, e1, e2, fun i v ⟨en, h1, h2⟩ => by obtain ⟨q, h3, h4⟩ := e3 i en h1; exact ⟨q, h3, h2.trans h4⟩, e4⟩
  · obtain ⟨o, es, ep, qs, z, hs, ho, hx, hdat, e1, e2, e3, e4⟩ := core g2
    have view : PySem.W.KdlKeysView h p a := (show ObjOk P w H h p (keysO p a) from ok p _ g1).1
    exact ⟨_, _, _, _, _, qs, kdr_keys hx hdat, ⟨view, ho⟩, e1, e2, fun i v ⟨en, h1, h2⟩ => by obtain ⟨q, h3, h4⟩ := e3 i en h1; exact ⟨q, h3, h2.trans h4⟩, e4⟩
theorem acc_refs {Pv : Nat → Value → Prop} {acc : Array Value} {n : Nat} {qs : List Addr} (hn : n = qs.length) (h : ItemsOf Pv acc n) (hp : ∀ i v, Pv i v → ∃ q, qs[i]? = some q ∧ v = .ref q) : acc.toList = qs.map Value.ref := by
  refine List.ext_getElem (by rw [Array.length_toList, h.1, List.length_map, hn]) fun i h1 h2 => ?_
  have := h.2 i acc.toList[i] (by rw [← Array.getElem?_toList, List.getElem?_eq_getElem h1])
  obtain ⟨q, e1, e2⟩ := hp i _ this
  rw [e2, List.getElem_map]
  rw [List.length_map] at h2
  rw [List.getElem?_eq_getElem h2] at e1
  rw [Option.some.inj e1]
/-- list(d), list(d.keys()) -/
def rListT : List V → Hp → VK → Prop := fun vs H Q => ∃ (p : Addr) (kvs : List (List L2.Key × V)), vs = [.ref p] ∧ SrcT H p kvs ∧ ∀ (qs : List Addr) (l : Addr), Paired (fun kv q => H q = some (.tup (kv.1.map kV))) kvs qs → qs.length ≤ sizeLine → (∀ kv ∈ kvs, kv.1.length ≤ sizeLine) → H l = none → Q (.ref l) (upd H l (.lst (qs.map V.ref)))
theorem vals_refs : ∀ qs : List Addr, Vals (qs.map V.ref) (qs.map Value.ref)
  | [] => .nil
  | _ :: qs => .cons rfl (vals_refs qs)
theorem key_lens {P : Program} {w : World} {H : Hp} {h : Heap} (ok : HOk P w H h) {kvs : List (List L2.Key × V)} {qs : List Addr} (hp : Paired (fun kv q => H q = some (.tup (kv.1.map kV))) kvs qs) : ∀ kv ∈ kvs, kv.1.length ≤ sizeLine := by
  induction hp with
  | nil => simp
  | cons h1 _ ih =>
    intro kv hm
    rcases List.mem_cons.mp hm with rfl | hm
    · have := (show ObjOk P w H h _ (.tup (kv.1.map kV)) from ok _ _ h1).1
      rwa [List.length_map] at this
    · exact ih kv hm
theorem call_listT (hc : X.calm = true) : CallR X (.type "list") rListT := by
  intro pins s σ H vs us Q I r h
  obtain ⟨p, kvs, rfl, g, q⟩ := h
  obtain rfl := Vals.ref1 r
  obtain ⟨T, d, n, Pv, OK, qs, K, hok, hn, hz, hP, hpr⟩ := g.at' I.hok
  refine PySem.W.kdl_call K (I.ok.hd hc) hok hz fun h' tk acc c' hk hD hacc => ?_
  have e := acc_refs hn hacc hP
  have hD' : h'.get? s.heap.objs.size = some { cls := .type "list", dict := none, data := .seq (qs.map Value.ref).toArray c', slots := #[] } := by
    rw [← e, Array.toArray_toList]; exact hD
  exact ⟨.ref s.heap.objs.size, upd H s.heap.objs.size (.lst (qs.map V.ref)), I.laid (t' := tk) hk (Nat.le_refl _) (show ObjOk X.prog X.w _ _ _ (.lst (qs.map V.ref)) from ⟨by rw [List.length_map, ← hn]; exact hz, qs.map Value.ref, c', vals_refs qs, hD'⟩), rfl, q qs _ hpr (by rw [← hn]; exact hz) (key_lens I.hok hpr) (I.hok.fresh (Nat.le_refl _))⟩
/-- sorted(d), sorted(d.keys()): keys that are pairs of numbers -/
def rSortedT2 : List V → Hp → VK → Prop := fun vs H Q => ∃ (p : Addr) (kvs : List (List L2.Key × V)) (ps : List (Int × Int)), vs = [.ref p] ∧ SrcT H p kvs ∧ kvs.map (·.1) = ps.map (fun p => [.inl p.1, .inl p.2]) ∧
  ∀ (xs ys : List V) (l : Addr) (k : V → Int × Int), (∀ x ∈ xs, ∃ q, x = .ref q ∧ H q = some (.tup [.int (k x).1, .int (k x).2])) → xs.map k = ps → SrtO.Srtd (ltP k) ys → SrtO.Stb (ltP k) ys xs → ys.length ≤ sizeLine → H l = none → Q (.ref l) (upd H l (.lst ys))
open Classical in
noncomputable def keyQ (H : Hp) (v : V) : Int × Int := if h : ∃ (p : Int × Int) (t : Addr), v = V.ref t ∧ H t = some (.tup [.int p.1, .int p.2]) then Classical.choose h else (0, 0)
theorem keyQ_eq {H : Hp} {t : Addr} {p : Int × Int} (e : H t = some (.tup [.int p.1, .int p.2])) : keyQ H (.ref t) = p := by
  have h : ∃ (p : Int × Int) (t' : Addr), V.ref t = V.ref t' ∧ H t' = some (.tup [.int p.1, .int p.2]) := ⟨p, t, rfl, e⟩
  unfold keyQ
  rw [dif_pos h]
  obtain ⟨t2, e2, h2⟩ := Classical.choose_spec h
  cases e2
  rw [e] at h2
  have := Option.some.inj h2
  injection this with this
  injection this with h1 h2
  injection h2 with h2 _
  injection h1 with h1
  injection h2 with h2
  exact Prod.ext h1.symm h2.symm
theorem cr_sortedT2 (hc : X.calm = true) : CallR X (.builtin "sorted") rSortedT2 := by
  intro pins s σ H vs us Q I r h
  obtain ⟨p, kvs, ps, rfl, g, hks, q⟩ := h
  obtain rfl := Vals.ref1 r
  obtain ⟨T, d, n, Pv, OK, qs, K, hok, hn, hz, hP, hpr⟩ := g.at' I.hok
  have hq : ∀ {l : List (List L2.Key × V)} {qs : List Addr} {ps : List (Int × Int)}, Paired (fun kv q => H q = some (.tup (kv.1.map kV))) l qs → l.map (·.1) = ps.map (fun p => [.inl p.1, .inl p.2]) →
      (∀ x ∈ qs.map V.ref, ∃ q, x = .ref q ∧ H q = some (.tup [.int (keyQ H x).1, .int (keyQ H x).2])) ∧ (qs.map V.ref).map (keyQ H) = ps := by
    intro l qs ps hpr
    induction hpr generalizing ps with
    | nil => intro e; cases ps with
      | nil => exact ⟨by simp, rfl⟩
      | cons => simp at e
    | @cons kv q l qs h1 _ ih =>
      intro e
      cases ps with
      | nil => simp at e
      | cons p ps =>
        simp only [List.map_cons, List.cons.injEq] at e
        obtain ⟨i1, i2⟩ := ih e.2
        rw [e.1] at h1
        have h1 : H q = some (.tup [.int p.1, .int p.2]) := h1
        refine ⟨fun x hx => ?_, ?_⟩
        · rw [List.map_cons, List.mem_cons] at hx
          rcases hx with rfl | hx
          · exact ⟨q, rfl, by rw [keyQ_eq h1]; exact h1⟩
          · exact i1 x hx
        · rw [List.map_cons, List.map_cons, keyQ_eq h1, i2]
  obtain ⟨hx, hps⟩ := hq hpr hks
  have q := fun ys l => q (qs.map V.ref) ys l (keyQ H) hx hps
  generalize keyQ H = k at hx q
  refine Calls.call_function_entry PyProof.Rows.kind_sorted PyProof.Rows.plain_sorted PyProof.Rows.entry_sorted (PyProof.Rows.args_sorted1 _) ?_
  unfold Builtin.«sorted»
  refine wpAny_bind (m := checkCount "sorted" 1 1 _) (wpAny_pure ?_)
  refine wpAny_bind (PySem.W.kdu_collect (A := X.A.in1) K (I.ok.hd hc) hok hz fun h' tk acc hk hacc => ?_)
  have e := acc_refs hn hacc hP
  rw [e]
  have I1 : Inv X pins σ H { s with heap := h', toks := tk } := I.kept hk
  have hlen : (qs.map Value.ref).length ≤ sizeLine := by rw [List.length_map, ← hn]; exact hz
  refine wpAny_bind (wpAny_newList ?_ hlen)
  have hoL : (h'.push (seqObj "list" (qs.map Value.ref).toArray 0)).get? h'.objs.size = some (seqObj "list" (qs.map Value.ref).toArray 0) := Heap.get?_push_size _ rfl
  show wpAny _ _ _ _ _ { s with heap := h'.push (seqObj "list" (qs.map Value.ref).toArray 0), toks := tk }
  have hpair : ∀ v ∈ qs.map Value.ref, Srt.IsPair (h'.push (seqObj "list" (qs.map Value.ref).toArray 0)) v (k (backV v)).1 (k (backV v)).2 := by
    intro v hv
    obtain ⟨b, hb, rfl⟩ := List.mem_map.mp hv
    obtain ⟨b', e1, h1⟩ := hx (.ref b) (List.mem_map.mpr ⟨b, hb, rfl⟩)
    cases e1
    obtain ⟨_, its2, r2, ot, hot, hct, nt, hdt⟩ := (show ObjOk X.prog X.w H h' b (.tup [.int (k (.ref b)).1, .int (k (.ref b)).2]) from I1.hok _ _ h1)
    obtain ⟨u1, u2, rfl, ri, rj⟩ := vals2 r2
    obtain ⟨t1, rfl⟩ := ri
    obtain ⟨t2, rfl⟩ := rj
    exact ⟨b, ot, t1, t2, nt, rfl, Heap.get?_push_of_some _ hot, hct, hdt⟩
  refine wpAny_bind (wpAny_holding (wpAny_call_entry slot_list_sort ⟨_, hoL, rfl⟩ entry_list_sort
    (SrtO.list_sort_ord (s := { s with heap := h'.push (seqObj "list" (qs.map Value.ref).toArray 0), toks := tk }) (SrtO.swo_lex fun u => k (backV u)) hoL hlen (fun h2 => ?_) fun out hs hb => ⟨_, rfl, ?_⟩) (args_list_sort _)))
  · refine SrtO.pairs_sortableO (by omega) hpair fun o e => ?_
    have e' : some o = some (seqObj "list" (qs.map Value.ref).toArray 0) := e.symm.trans hoL
    cases e'
    intro c
    exact absurd (Value.type.inj c) (by decide)
  · have hr : ∀ u ∈ out, ∃ a, u = Value.ref a := fun u hu => by
      obtain ⟨b, _, rfl⟩ := List.mem_map.mp (hb.perm.mem_iff.mp hu); exact ⟨b, rfl⟩
    have hb' : SrtO.Stb (ltP k) (out.map backV) (qs.map V.ref) := by
      have := SrtO.Stb.map (ltP_swo k) backV hb
      rwa [List.map_map] at this
    obtain ⟨e', he'⟩ := PyProof.Rows.sortedHeap_at (vs := qs.map Value.ref) (out := out.toArray) hoL
    have hlo : (out.map backV).length ≤ sizeLine := by rw [hb'.len, List.length_map, ← hn]; exact hz
    refine wpAny_pure ⟨_, rfl, .ref h'.objs.size, upd H h'.objs.size (.lst (out.map backV)), I1.laid (t' := tk) (fun b u e => ?_) (Nat.le_refl _)
      (show ObjOk X.prog X.w _ _ _ (.lst (out.map backV)) from ⟨hlo, out, e', vals_back hr, he'⟩), rfl, q _ _ (SrtO.srtd_map hs) hb' hlo (I1.hok.fresh (Nat.le_refl _))⟩
    have hb : b < h'.objs.size := Heap.lt_size e
    rw [PyProof.Rows.sortedHeap_old (Nat.ne_of_lt hb) (by rw [size_push']; exact Nat.lt_succ_of_lt hb)]
    exact Heap.get?_push_of_some _ e
end
end G7

set_option maxRecDepth 100000
/-! len(set(xs)), xs numbers in a list or a tuple -/
namespace G7
open PySem PySem.Spec PyProof.Rows L2
section
variable {prog : Program} {w : World} {A : Around} {E : Value → Shared → Prop} {s : Shared}
set_option maxHeartbeats 3200000 in
theorem call_set_tupI {l : Addr} {items : Array Value} {ns : List Int} {Q : Value → Shared → Prop} (hh : A.handled = none) (hl : s.heap.IsTuple l items) (hi : IntsAre items.toList ns) (hb : items.size + 1 < scanBound)
    (h : ∀ (h' : Heap) (tk : Nat), h'.SetOf (intKind prog w) s.heap.objs.size (fun q => (firstMet (fun i => ns.getD i 0) items.size).any (· == q)) (firstMet (fun i => ns.getD i 0) items.size).length →
      (∀ b o, b < s.heap.objs.size → s.heap.get? b = some o → h'.get? b = some o) → Q (.ref s.heap.objs.size) { s with heap := h', toks := tk }) : wpAny (model prog w) A (call (.type "set") [.ref l]) Q E s := by
  obtain ⟨c, tl, hmro⟩ := PySem.F.called_set.mro
  have hmade := PySem.F.called_set.made
  have hsub := PySem.F.called_set.sub
  refine wpAny_call (codeAny_of_tree ?_)
  show wpAny _ _ (callAny (.type "set") _) _ _ _
  refine wpAny_pure ⟨Code.quiet_builtin _ (by decide +kernel), codeAny_builtin PySem.F.entry_type_call ?_⟩
  rw [Around.under_plain (weight_type_call_type "set" [.ref l] []) rfl]
  have h1 := PySem.F.called_set.notType
  have h2 := PySem.F.called_set.canCreate
  have hct := PySem.F.typeCall_set_1 (.ref l)
  repeat (any_goals (first | assumption | wp_step))
  let eo (led : Bool) : Obj := { cls := .type "set", dict := none, data := .set #[] 0 (.fresh 0 0 led) }
  refine codeAny_mono (code_set_new_1 (.ref l) (E := E) (Q₁ := fun obj s₁ => ∃ led : Bool, obj = .ref s.heap.objs.size ∧ s₁ = { s with heap := s.heap.push (eo led) }) fun led => ⟨led, rfl, rfl⟩) fun r s₁ hr => ?_
  cases r with
  | error e => exact hr
  | ok fl =>
    cases fl with
    | ret obj =>
      obtain ⟨led, rfl, rfl⟩ := hr
      have hS : (s.heap.push (eo led)).get? s.heap.objs.size = some (eo led) := Heap.get?_push_size _ rfl
      have hT : Shared.TypeIs { s with heap := s.heap.push (eo led) } (.ref s.heap.objs.size) "set" := ⟨_, hS, rfl⟩
      have hli := PySem.F.called_set.init.lookup
      have hbi := PySem.F.called_set.init.bind (.ref s.heap.objs.size)
      repeat (any_goals (first | assumption | wp_step))
      refine codeAny_mono (codeAny_call_builtin (R := wants (fun r s₂ => r = .none ∧ ∃ h' tk, s₂ = { s with heap := h', toks := tk } ∧
          h'.SetOf (intKind prog w) s.heap.objs.size (fun q => (firstMet (fun i => ns.getD i 0) items.size).any (· == q)) (firstMet (fun i => ns.getD i 0) items.size).length ∧
          (∀ b o, b < s.heap.objs.size → s.heap.get? b = some o → h'.get? b = some o)) E) PySem.F.called_set.init.plain PySem.F.entry_set_init (check_set_init_1 hT ?_)) fun r₂ s₂ hr₂ => ?_
      · obtain ⟨⟨ocls, odict, odata, oslots⟩, hol, hcl, nl, hdl⟩ := hl
        simp only at hcl hdl
        subst hcl; subst hdl
        have hol' : (s.heap.push (eo led)).get? l = some { cls := .type "tuple", dict := odict, data := .seq items nl, slots := oslots } := Heap.get?_push_of_some _ hol
        have hsls := PySem.F.sub_tuple_set
        have hslf := PySem.F.sub_tuple_frozenset
        have hne : (Value.type "tuple" == Value.type "dict") = false := by decide
        have hl1 : (s.heap.push (eo led)).IsTuple l items := ⟨_, hol', rfl, nl, rfl⟩
        unfold Builtin.«set.__init__» noKeywords Builtin.Frozenset.updateFrom
        generalize hPI : pyIter = PI
        wp_walk
        subst hPI
        refine wpAny_pyIter_tuple hl1 (wpAny_bind (wpAny_runValue ?_))
        have hlS : l < s.heap.objs.size := Heap.lt_size hol
        have hh3 : A.in1.in1.in1.handled = none := by simp [hh]
        have hneI : l ≠ (s.heap.push (eo led)).objs.size := by
          rw [Heap.size_push]; exact Nat.ne_of_lt (Nat.lt_succ_of_lt hlS)
        have hSf : s.heap.objs.size ∉ [(s.heap.push (eo led)).objs.size, l] := by
          rw [Heap.size_push]; simp only [List.mem_cons, List.not_mem_nil, or_false, not_or]
          exact ⟨Nat.ne_of_lt (Nat.lt_succ_self _), Nat.ne_of_gt hlS⟩
        refine codeAny_set_update_loopS ((Walks.tuple hh3 _ l hneI items).toS) s.heap.objs.size hSf (fun i => ns.getD i 0) (fun i v hv => IntsAre.int_at hi i v (by rw [Array.getElem?_toList]; exact hv)) hb (items.size - 0) 0 _ (by omega) (Nat.zero_le _)
          ⟨⟨_, Heap.get?_push_size _ rfl, rfl, rfl⟩, (hl1.push _)⟩ ?hS0 ?hR
        case hS0 =>
          exact SetOf_congr ((setObjOf_fresh (knd := intKind prog w) led).setOf (Heap.get?_push_of_some _ hS) (by unfold scanBound; omega)) (fun _ => rfl) rfl
        case hR =>
          intro s' hm hS'
          obtain ⟨h', g', d', tk', os'⟩ := s'
          have eg : g' = s.gens := hm.gens
          have ed : d' = s.drawn := hm.drawn
          have eo' : os' = s.os := hm.os
          subst eg; subst ed; subst eo'
          show wpAny _ _ _ _ _ _
          refine wpAny_pure ?_
          show wpAny _ _ (ret Value.none) _ _ _
          refine wpAny_pure ⟨rfl, h', tk', rfl, hS', fun b o hb e => ?_⟩
          refine hm.heap b o ?_ (Heap.get?_push_of_some _ (Heap.get?_push_of_some _ e))
          rw [Heap.size_push]
          simp only [List.mem_cons, List.not_mem_nil, or_false, not_or]
          exact ⟨Nat.ne_of_lt hb, Nat.ne_of_lt (Nat.lt_succ_of_lt hb)⟩
      · cases r₂ with
        | error e => exact hr₂
        | ok fl₂ =>
          cases fl₂ with
          | ret r =>
            obtain ⟨rfl, h', tk, rfl, hS', hk'⟩ := hr₂
            repeat (any_goals (first | assumption | wp_step))
            exact h _ _ hS' hk'
          | _ => exact hr₂.elim
    | _ => exact hr.elim
end
/-- without what has come before -/
def dedup (ns : List Int) : List Int := ns.foldl step_dedup []
theorem firstMet_all (ns : List Int) : firstMet (fun i => ns.getD i 0) ns.length = dedup ns := by
  unfold firstMet dedup
  congr 1
  apply List.ext_getElem (by simp)
  intro i h1 h2
  simp [List.getElem_map, List.getElem_range, List.getD_eq_getElem?_getD, List.getElem?_eq_getElem h2]
theorem dedup_len (ns : List Int) : (dedup ns).length ≤ ns.length := by
  rw [← firstMet_all]; exact firstMet_length_le _ _
def lenSetD : D → Option D
  | .list xs => (intsD xs).bind fun ns => if ns.length ≤ 4000 then some (.int (dedup ns).length) else none
  | .tuple xs => (intsD xs).bind fun ns => if ns.length ≤ 4000 then some (.int (dedup ns).length) else none
  | _ => none
def tLenSetA (K : PySem.W.Frag) (ta : TE) : TE := fun σ H Q => ta σ H fun x H1 => ∃ (l : Addr) (ns : List Int), x = .ref l ∧ (SqL K H1 l (ns.map V.int) ∨ SqT K H1 l (ns.map V.int)) ∧ ns.length ≤ 4000 ∧ Q (.int (dedup ns).length) H1
section
variable {X : Cx} {κ : List SK} {M : List Nat} {k : RK} {w : WE}
theorem pe_lenSetA {a : Expr} {ta : TE} {p p2 q pos : Pos} (hg : Gl X "len") (hm : X.mg "len" = none) (hg2 : Gl X "set") (hm2 : X.mg "set" = none) (ha : PE X a ta) (hc : X.calm = true)
    (na : starEach [a] X.env = (false, eval a X.env) :: starEach [] X.env := by rfl) : PE X (.Call (.Name "len" p) [.Call (.Name "set" p2) [a] [] q] [] pos) (tLenSetA X.K ta) := by
  refine ⟨fun pins s σ H Q I h => ?_⟩
  refine Call_ (ld_blt I hg hm boot_len ?_)
  refine callWith_builtin1 (args_cons ?_ rfl) rfl rfl
  refine Call_ (ld_blt I hg2 hm2 boot_set ?_)
  refine callWith_type1 (args_cons (thn (ha.run pins s σ H _ I h) fun v s1 ⟨x, H1, I1, r1, q1⟩ => args_nil ?_) na) na rfl
  obtain ⟨l, ns, rfl, hq, hl, q1⟩ := q1
  cases r1
  have hd := dedup_len ns
  rcases hq with hq | hq
  · obtain ⟨its, r, pl, hz⟩ := I1.list hq
    have hlen : its.toArray.size = ns.length := by rw [List.size_toArray, ← r.length, List.length_map]
    refine call_set_list (I1.ok.hd hc) pl.isList (by simpa using RZ.intsAre_vals r) (by rw [hlen]; unfold scanBound; omega) fun h' tk hS hk => ?_
    refine args_nil ?_
    rw [hlen, firstMet_all] at hS
    obtain ⟨o, es, ep, t, ho, hex, hdd, _, _, _, hf, hn⟩ := hS
    have I2 : Inv X pins σ H1 { s1 with heap := h', toks := tk } := I1.kept fun b o e => hk b o (Heap.lt_size e) e
    exact call_len_set ho hex hdd hf (by rw [hn] <;> omega) ⟨.int (dedup ns).length, H1, I2.tok _, ⟨_, by rw [hn]⟩, q1⟩
  · obtain ⟨its, r, pl, hz⟩ := I1.tuple hq
    have hlen : its.toArray.size = ns.length := by rw [List.size_toArray, ← r.length, List.length_map]
    refine call_set_tupI (I1.ok.hd hc) pl (by simpa using RZ.intsAre_vals r) (by rw [hlen]; unfold scanBound; omega) fun h' tk hS hk => ?_
    refine args_nil ?_
    rw [hlen, firstMet_all] at hS
    obtain ⟨o, es, ep, t, ho, hex, hdd, _, _, _, hf, hn⟩ := hS
    have I2 : Inv X pins σ H1 { s1 with heap := h', toks := tk } := I1.kept fun b o e => hk b o (Heap.lt_size e) e
    exact call_len_set ho hex hdd hf (by rw [hn] <;> omega) ⟨.int (dedup ns).length, H1, I2.tok _, ⟨_, by rw [hn]⟩, q1⟩
theorem se_lenSet {a : Expr} {p p2 q pos : Pos} (hg : Gl X "len") (hm : X.mg "len" = none) (hg2 : Gl X "set") (hm2 : X.mg "set" = none) (ha : SE X κ M k a w) (hc : X.calm = true := by rfl) (pa : k.rdable = true := by rfl)
    (na : starEach [a] X.env = (false, eval a X.env) :: starEach [] X.env := by rfl) : SE X κ M .fz (.Call (.Name "len" p) [.Call (.Name "set" p2) [a] [] q] [] pos) (wOp1 lenSetD w) :=
  SE.of (pe_lenSetA hg hm hg2 hm2 ha hc na) fun σ H Q ⟨g, env, W, F, hw, post⟩ => ⟨g, env, _, F, hw, fun x H1 g1 e1 d1 F1 s1 r1 ⟨z, ez, w1⟩ => by
    cases d1 with
    | list xs =>
      simp only [lenSetD, Option.bind_eq_some_iff] at ez
      obtain ⟨ns, e2, ez⟩ := ez
      split at ez
      · cases ez
        obtain ⟨l, ys, rfl, ra, _, la⟩ := (r1.rdb pa).toLst
        have := ints_of la e2
        subst this
        exact ⟨l, ns, rfl, .inl (.inl ra), by assumption, post _ H1 g1 e1 _ F1 s1 (.int _) w1⟩
      · cases ez
    | tuple xs =>
      simp only [lenSetD, Option.bind_eq_some_iff] at ez
      obtain ⟨ns, e2, ez⟩ := ez
      split at ez
      · cases ez
        obtain ⟨l, ys, rfl, ra, _, la⟩ := (r1.rdb pa).toTup
        have := ints_of la e2
        subst this
        exact ⟨l, ns, rfl, .inr (sqT_of ra), by assumption, post _ H1 g1 e1 _ F1 s1 (.int _) w1⟩
      · cases ez
    | _ => cases ez⟩
end
end G7

set_option maxRecDepth 100000
/-! more rules over data: dicts with tuple keys, reversed, bits -/
namespace G7
open PySem PySem.Spec PyProof.Rows L2
def keysOf : List D → Option (List Key)
  | [] => some []
  | d :: r => (keyOf d).bind fun k => (keysOf r).map (k :: ·)
def keyT : D → Option (List Key)
  | .tuple ds => keysOf ds
  | _ => none
theorem keyOf_kD (k : Key) : keyOf (kD k) = some k := by cases k <;> rfl
theorem keysOf_kD : ∀ ks : List Key, keysOf (ks.map kD) = some ks
  | [] => rfl
  | k :: ks => by simp [keysOf, keyOf_kD, keysOf_kD ks]
theorem keyT_tD (k : List Key) : keyT (tD k) = some k := keysOf_kD k
def keyTB (k : List Key) (d : D) : Bool := decide (keyT d = some k)
theorem keyTB_tD (k k' : List Key) : keyTB k (tD k') = decide (k' = k) := by simp [keyTB, keyT_tD]
/-- a dict with tuple keys -/
abbrev dTD (m : List (D × D)) : D := .dict ((.none, .none) :: m)
def lookTD (m : List (D × D)) (k : List Key) : Option D := (m.find? fun p => keyTB k p.1).map (·.2)
def putTD (m : List (D × D)) (k : List Key) (v : D) : List (D × D) := if (m.any fun p => keyTB k p.1) = true then m.map (fun p => if keyTB k p.1 = true then (p.1, v) else p) else m ++ [(tD k, v)]
section
variable {K : PySem.W.Frag} {H : Hp} {S : Addr → Prop}
theorem look_repT (k : List Key) : ∀ {kvs : List (List Key × V)} {ds : List D}, RepAll K H S (kvs.map (·.2)) ds → (∀ d, lookTD ((kvs.map fun p => tD p.1).zip ds) k = some d → ∃ v, valV kvs k = some v ∧ Rep K H S v d) ∧ (valV kvs k).isSome = (lookTD ((kvs.map fun p => tD p.1).zip ds) k).isSome
  | [], _, .nil => ⟨fun d h => by simp [lookTD] at h, rfl⟩
  | p :: kvs, _, .cons r t => by
    obtain ⟨h1, h2⟩ := look_repT k t
    by_cases e : p.1 = k
    · have : keyTB k (tD p.1) = true := by rw [keyTB_tD]; simp [e]
      refine ⟨fun d h => ?_, ?_⟩
      · simp [lookTD, List.find?_cons, this] at h
        subst h
        exact ⟨_, valV_pos e, r⟩
      · rw [valV_pos e]; simp [lookTD, List.find?_cons, this]
    · have : keyTB k (tD p.1) = false := by rw [keyTB_tD]; simp [e]
      rw [valV_neg e]
      refine ⟨fun d h => h1 d ?_, ?_⟩
      · simp [lookTD, List.find?_cons, this] at h ⊢
        exact h
      · rw [h2]; simp [lookTD, List.find?_cons, this]
theorem any_keysT (k : List Key) : ∀ {kvs : List (List Key × V)} {ds : List D}, (kvs.length = ds.length) → (((kvs.map fun p => tD p.1).zip ds).any fun p => keyTB k p.1) = kvs.any fun kv => decide (kv.1 = k)
  | [], _, _ => by simp
  | p :: kvs, [], h => by simp at h
  | p :: kvs, d :: ds, h => by
    have := any_keysT k (kvs := kvs) (ds := ds) (by simpa using h)
    simp only [List.map_cons, List.zip_cons_cons, List.any_cons, keyTB_tD, this]
theorem put_repT {k : List Key} {v : V} {d : D} (rv : Rep K H S v d) {kvs : List (List Key × V)} {ds : List D} (al : RepAll K H S (kvs.map (·.2)) ds) :
    ∃ ds', RepAll K H S ((putK kvs k v).map (·.2)) ds' ∧ ((putK kvs k v).map fun p => tD p.1).zip ds' = putTD ((kvs.map fun p => tD p.1).zip ds) k d := by
  have hl : kvs.length = ds.length := by simpa using al.length
  unfold putK putTD
  rw [any_keysT k hl]
  by_cases h : (kvs.any fun kv => decide (kv.1 = k)) = true
  · rw [if_pos h, if_pos h]
    have key : ∀ {kvs : List (List Key × V)} {ds : List D}, RepAll K H S (kvs.map (·.2)) ds → ∃ ds', RepAll K H S ((kvs.map fun kv => if kv.1 = k then (kv.1, v) else kv).map (·.2)) ds' ∧ ((kvs.map fun kv => if kv.1 = k then (kv.1, v) else kv).map fun p => tD p.1).zip ds' = ((kvs.map fun p => tD p.1).zip ds).map fun p => if keyTB k p.1 = true then (p.1, d) else p := by
      intro kvs
      induction kvs with
      | nil => intro ds al; cases al; exact ⟨[], .nil, rfl⟩
      | cons p kvs ih =>
        intro ds al
        cases al with
        | @cons _ _ d0 _ r t =>
          obtain ⟨ds', h1, h2⟩ := ih t
          by_cases e : p.1 = k
          · refine ⟨d :: ds', ?_, ?_⟩
            · simp only [List.map_cons, if_pos e]; exact .cons rv h1
            · simp only [List.map_cons, List.zip_cons_cons, if_pos e, keyTB_tD, h2]; simp [e]
          · refine ⟨d0 :: ds', ?_, ?_⟩
            · simp only [List.map_cons, if_neg e]; exact .cons r h1
            · simp only [List.map_cons, List.zip_cons_cons, if_neg e, keyTB_tD, h2]; simp [e]
    exact key al
  · rw [if_neg h, if_neg h]
    refine ⟨ds ++ [d], ?_, ?_⟩
    · rw [List.map_append]; exact al.append (.cons rv .nil)
    · rw [List.map_append, List.zip_append (by simpa using hl)]; rfl
end
theorem pairsD_dP0 : ∀ ps : List (Int × Int), pairsD (ps.map dP) = some ps
  | [] => rfl
  | p :: ps => by simp [pairsD, dP, pairsD_dP0 ps]
def dgetTD : D → D → Option D
  | .dict ((.none, .none) :: m), y => (keyT y).bind fun k => lookTD m k
  | _, _ => none
def dinTD : D → D → Option D
  | y, .dict ((.none, .none) :: m) => (keyT y).map fun k => .bool (lookTD m k).isSome
  | _, _ => none
def dninTD : D → D → Option D
  | y, .dict ((.none, .none) :: m) => (keyT y).map fun k => .bool (!(lookTD m k).isSome)
  | _, _ => none
def wDputT (i : Nat) (v ix : WE) : WS := fun W e => v e fun y e1 => (∃ m, e1[i]? = some (some (dTD m))) ∧ ix e1 fun j e2 => ∃ k m, keyT j = some k ∧ e2[i]? = some (some (dTD m)) ∧ m.length < lim ∧ W.nx (e2.set i (some (dTD (putTD m k y))))
section
variable {K : PySem.W.Frag} {H : Hp} {S : Addr → Prop} {a : Addr}
theorem dT_zip {kvs : List (Key × V)} {ds : List D} {m : List (D × D)} (h : (kvs.map fun p => kD p.1).zip ds = (.none, .none) :: m) : False := by
  cases kvs with
  | nil => simp at h
  | cons p kvs => cases ds with
    | nil => simp at h
    | cons d ds =>
      simp at h
      have := h.1.1
      cases hp : p.1 <;> rw [hp] at this <;> cases this
theorem Rep.toDT {v : V} {m : List (D × D)} (r : Rep K H S v (dTD m)) : ∃ a kvs ds, v = .ref a ∧ ¬ S a ∧ H a = some (.dT kvs) ∧ RepAll K H S (kvs.map (·.2)) ds ∧ m = (kvs.map fun p => tD p.1).zip ds := by
  unfold dTD at r
  generalize hd : PyData.dict ((.none, .none) :: m) = d at r
  cases r with
  | dK n r al => exact (dT_zip (PyData.dict.inj hd).symm).elim
  | dT n r al => exact ⟨_, _, _, rfl, n, r, al, (List.cons.inj (PyData.dict.inj hd)).2⟩
  | xt n r e z al => exact absurd (Prod.mk.inj (List.cons.inj (PyData.dict.inj hd)).1).2 (by simp)
  | _ => cases hd
theorem ObjR.toDT {m : List (D × D)} (r : ObjR K H S a (dTD m)) : ∃ kvs ds, H a = some (.dT kvs) ∧ RepAll K H S (kvs.map (·.2)) ds ∧ m = (kvs.map fun p => tD p.1).zip ds := by
  unfold dTD at r
  generalize hd : PyData.dict ((.none, .none) :: m) = d at r
  cases r with
  | dK r al => exact (dT_zip (PyData.dict.inj hd).symm).elim
  | dT r al => exact ⟨_, _, r, al, (List.cons.inj (PyData.dict.inj hd)).2⟩
  | lst => cases hd
theorem RdB.toDT {v : V} {m : List (D × D)} (r : RdB K H S v (dTD m)) : ∃ a kvs ds, v = .ref a ∧ H a = some (.dT kvs) ∧ RepAll K H S (kvs.map (·.2)) ds ∧ m = (kvs.map fun p => tD p.1).zip ds := by
  rcases r with r | ⟨a, rfl, r⟩
  · obtain ⟨a, kvs, ds, e, _, h⟩ := r.toDT; exact ⟨a, kvs, ds, e, h⟩
  · obtain ⟨kvs, ds, h⟩ := r.toDT; exact ⟨a, kvs, ds, rfl, h⟩
theorem keysOf_v : ∀ {ds : List D} {vs : List V} {ks : List Key}, RepAll K H S vs ds → keysOf ds = some ks → vs = ks.map kV
  | [], _, _, .nil, h => by simp [keysOf] at h; subst h; rfl
  | d :: ds, v :: vs, ks, .cons r t, h => by
    simp only [keysOf, Option.bind_eq_some_iff, Option.map_eq_some_iff] at h
    obtain ⟨k, hk, ks', hks, rfl⟩ := h
    rw [List.map_cons, ← keysOf_v t hks, keyOf_v (.inl r) hk]
theorem keyT_v {y : V} {d : D} {k : List Key} (r : RdB K H S y d) (h : keyT d = some k) : ∃ b, y = .ref b ∧ H b = some (.tup (k.map kV)) := by
  cases d with
  | tuple ds =>
    obtain ⟨a, xs, rfl, n, e, z, al⟩ := r.tupRep.toTupX
    exact ⟨a, rfl, by rw [e, keysOf_v al h]⟩
  | _ => simp [keyT] at h
end
section
variable {X : Cx} {κ : List SK} {M Me : List Nat} {k ka kb : RK} {a b e : Expr} {w wa wb : WE} {pos : Pos}
theorem se_dnewT : SE X κ M .nw (.Dict [] [] pos) (wC (dTD [])) := SE.of pe_dnewT fun σ H Q ⟨g, env, W, F, hw, post⟩ => fun p np => by
  refine post _ _ (g.add p) env _ (F.new np) (.new np) ⟨p, rfl, np, .inr rfl, fun q => F.own_ne (F.p_own q) np, ?_⟩ hw
  have := Obj1.dT (K := X.K) (H := upd H p (.dT [])) (S := (g.add p).own) (a := p) (kvs := []) (ds := []) upd_same .nil
  exact this
theorem dgetTD_f {x y z : D} (h : dgetTD x y = some z) : ∃ m k, x = dTD m ∧ keyT y = some k ∧ lookTD m k = some z := by
  unfold dgetTD at h
  split at h
  · obtain ⟨k, h1, h2⟩ := Option.bind_eq_some_iff.mp h; exact ⟨_, k, rfl, h1, h2⟩
  · cases h
theorem dinTD_f {x y z : D} (h : dinTD x y = some z) : ∃ m k, y = dTD m ∧ keyT x = some k ∧ z = .bool (id (lookTD m k).isSome) := by
  unfold dinTD at h
  split at h
  · obtain ⟨k, h1, rfl⟩ := Option.map_eq_some_iff.mp h; exact ⟨_, k, rfl, h1, rfl⟩
  · cases h
theorem dninTD_f {x y z : D} (h : dninTD x y = some z) : ∃ m k, y = dTD m ∧ keyT x = some k ∧ z = .bool (not (lookTD m k).isSome) := by
  unfold dninTD at h
  split at h
  · obtain ⟨k, h1, rfl⟩ := Option.map_eq_some_iff.mp h; exact ⟨_, k, rfl, h1, rfl⟩
  · cases h
theorem se_dgetT (hu : X.A.units + 1 < cLine) (ha : SE X κ M ka a wa) (hb : SE X κ M kb b wb) (hn : NoSl b) (hs : stable ka M = true := by rfl) (pa : ka.rdable = true := by rfl) (pb : kb.rdable = true := by rfl) : SE X κ M .fz (.Subscript a b pos) (wOp2 dgetTD wa wb) :=
  SE.of (pe_dget hu ha hb hn) fun σ H Q ⟨g, env, W, F, hw, post⟩ => ⟨g, env, _, F, hw, fun x H1 g1 e1 d1 F1 s1 r1 w1 => ⟨g1, e1, _, F1, w1, fun y H2 g2 e2 d2 F2 s2 r2 w2 => by
    obtain ⟨z, ez, wz⟩ := w2
    obtain ⟨m, k, rfl, hk, ez⟩ := dgetTD_f ez
    obtain ⟨p, kvs, ds, rfl, hp, al, rfl⟩ := ((r1.step s2 F1 hs).rdb pa).toDT
    obtain ⟨v, hv, rv⟩ := (look_repT k al).1 z ez
    obtain ⟨q, rfl, hq⟩ := keyT_v (r2.rdb pb) hk
    refine ⟨p, v, rfl, ?_, post v H2 g2 e2 z F2 (s1.tr s2 F F1) rv wz⟩
    rw [← hv]; exact DGet.t hp hq⟩⟩
theorem dinT_go (hs : stable ka M = true) (pa : ka.rdable = true) (pb : kb.rdable = true) (g0 : Bool → Bool) (f : D → D → Option D) (hf : ∀ {x y z}, f x y = some z → ∃ m k, y = dTD m ∧ keyT x = some k ∧ z = .bool (g0 (lookTD m k).isSome))
    {σ : St} {H : Hp} {Q : VK} (h : cE X.K κ M .fz (wOp2 f wa wb) σ H Q) : cE X.K κ M ka wa σ H fun y H1 => cE X.K κ M kb wb σ H1 fun x H2 => ∃ a o, x = .ref a ∧ DGet H2 a y o ∧ Q (.bl (g0 o.isSome)) H2 := by
  obtain ⟨g, env, W, F, hw, post⟩ := h
  refine ⟨g, env, _, F, hw, fun y H1 g1 e1 d1 F1 s1 r1 w1 => ⟨g1, e1, _, F1, w1, fun x H2 g2 e2 d2 F2 s2 r2 w2 => ?_⟩⟩
  obtain ⟨z, ez, wz⟩ := w2
  obtain ⟨m, k, rfl, hk, rfl⟩ := hf ez
  obtain ⟨p, kvs, ds, rfl, hp, al, rfl⟩ := (r2.rdb pb).toDT
  obtain ⟨q, rfl, hq⟩ := keyT_v ((r1.step s2 F1 hs).rdb pa) hk
  refine ⟨p, valV kvs k, rfl, DGet.t hp hq, ?_⟩
  rw [(look_repT k al).2]
  exact post _ H2 g2 e2 _ F2 (s1.tr s2 F F1) (.bl _) wz
theorem st_dinT (hu : X.A.units + 1 < cLine) (ha : SE X κ M ka a wa) (hb : SE X κ M kb b wb) (hm : behindInMarks .In b = false) (hs : stable ka M = true := by rfl) (pa : ka.rdable = true := by rfl) (pb : kb.rdable = true := by rfl) : ST X κ M (.Compare a [.In] [b] pos) (tVal (wOp2 dinTD wa wb)) :=
  ST.ofB (pt_cmp (pc_din hu ha hb) hm) fun σ H Q h => dinT_go hs pa pb id dinTD dinTD_f h
theorem st_dninT (hu : X.A.units + 1 < cLine) (ha : SE X κ M ka a wa) (hb : SE X κ M kb b wb) (hm : behindInMarks .NotIn b = false) (hs : stable ka M = true := by rfl) (pa : ka.rdable = true := by rfl) (pb : kb.rdable = true := by rfl) : ST X κ M (.Compare a [.NotIn] [b] pos) (tVal (wOp2 dninTD wa wb)) :=
  ST.ofB (pt_cmp (pc_dnotin hu ha hb) hm) fun σ H Q h => dinT_go hs pa pb not dninTD dninTD_f h
theorem se_dinT (hu : X.A.units + 1 < cLine) (ha : SE X κ M ka a wa) (hb : SE X κ M kb b wb) (hm : behindInMarks .In b = false) (hs : stable ka M = true := by rfl) (pa : ka.rdable = true := by rfl) (pb : kb.rdable = true := by rfl) : SE X κ M .fz (.Compare a [.In] [b] pos) (wOp2 dinTD wa wb) :=
  SE.of (pe_cmp (pc_din hu ha hb) hm) fun σ H Q h => dinT_go hs pa pb id dinTD dinTD_f h
theorem se_dninT (hu : X.A.units + 1 < cLine) (ha : SE X κ M ka a wa) (hb : SE X κ M kb b wb) (hm : behindInMarks .NotIn b = false) (hs : stable ka M = true := by rfl) (pa : ka.rdable = true := by rfl) (pb : kb.rdable = true := by rfl) : SE X κ M .fz (.Compare a [.NotIn] [b] pos) (wOp2 dninTD wa wb) :=
  SE.of (pe_cmp (pc_dnotin hu ha hb) hm) fun σ H Q h => dinT_go hs pa pb not dninTD dninTD_f h
/-- d[k] = v, an own dict with tuple keys -/
theorem ss_dputT {i : Nat} {x : Str} {px spos : Pos} {ix : Expr} {kx rk : RK} {wx : WE} (hu : X.A.units + 1 < cLine) (ho : PE X (.Name x px) (tVar i)) (hv : SE X κ Me .fz e w) (hx : SE X κ Me kx ix wx) (hk : kindOf κ i = .o ∨ kindOf κ i = .q) (px' : kx.rdable = true := by rfl) (hi : i ∈ M := by decide) (sub : ∀ i ∈ Me, i ∈ M := by decide)
    (hs : swapsWith e (some (.Subscript (.Name x px) ix spos)) pos.line X.env = pure false := by rfl) : SS X κ M rk (.Assign [.Subscript (.Name x px) ix spos] e pos) (wDputT i w wx) :=
  SS.of (ps_dput hu ho hx hv hs) fun D σ H ⟨g, env, W, F, hw, n, b, c, r⟩ => ⟨g, env, _, F, hw, fun v H1 g1 e1 d F1 s1 r1 ⟨⟨m0, e0⟩, w1⟩ => by
    obtain ⟨v0, sv, sl⟩ := F1.ev i _ e0
    have sl' : ∃ a, v0 = .ref a ∧ g1.al i = some a ∧ Obj1 X.K H1 g1.own a (dTD m0) := by rcases hk with hk | hk <;> rw [hk] at sl <;> exact sl
    obtain ⟨a, rfl, ea, ob⟩ := sl'
    refine ⟨_, sv, g1, e1, _, F1, w1, fun y H2 g2 e2 d2 F2 s2 r2 ⟨kk, m, ed, e3, hlen, w2⟩ => ?_⟩
    obtain ⟨q, rfl, hq⟩ := keyT_v (r2.rdb px') ed
    obtain ⟨v1, sv1, sl1⟩ := F2.ev i _ e3
    rw [sv] at sv1; cases sv1
    have sl1' : ∃ a', V.ref a = .ref a' ∧ g2.al i = some a' ∧ Obj1 X.K H2 g2.own a' (dTD m) := by rcases hk with hk | hk <;> rw [hk] at sl1 <;> exact sl1
    obtain ⟨a', ee, ea1, ob1⟩ := sl1'
    cases ee
    have rv : Rep X.K H2 g2.own v d := Res.step (k := .fz) (H0 := H) r1 s2 F1 rfl
    obtain ⟨kvs, ds, hp, al, rfl⟩ := ob1.r.toDT
    have hkl : kvs.length < sizeLine := by
      have := al.length
      rw [List.length_zip, List.length_map, ← this, List.length_map, Nat.min_self] at hlen
      exact Nat.lt_of_lt_of_le hlen (by rw [sizeLine_eq]; decide)
    refine ⟨a, _, rfl, DPut.t hp hq hkl, ?_⟩
    have off : ∀ b x, ¬ g2.own b → H2 b = some x → (upd H2 a (.dT (putK kvs kk v))) b = some x := fun b x n e => by
      rw [upd_ne (fun z => n (by rw [z]; exact .inr ⟨i, ea1⟩))]; exact e
    obtain ⟨ds', al', ez⟩ := put_repT (k := kk) (rv.keep off fun _ q => .inl q) (al.keep off fun _ q => .inl q)
    have ob2 : Obj1 X.K (upd H2 a (.dT (putK kvs kk v))) g2.own a (dTD (putTD ((kvs.map fun p => tD p.1).zip ds) kk d)) := by
      rw [← ez]; exact .dT upd_same al'
    have F3 := F2.put (o := .dT (putK kvs kk v)) hk ea1 sv (fun ys z => by rw [hp] at z; cases z) ob2
    have s12 := ((s1.tr s2 F F1).mono sub).tr (.put (o := .dT (putK kvs kk v)) F2 ea1 hi) F F2
    exact n g2 _ σ _ F3 (s12.toS F F3) w2⟩
/-! its keys, sorted or in a row -/
def sortTD : D → Option D
  | .dict ((.none, .none) :: m) => (pairsD (m.map (·.1))).map fun ps => .list ((psort ps).map dP)
  | _ => none
def listTD : D → Option D
  | .dict ((.none, .none) :: m) => some (.list (m.map (·.1)))
  | _ => none
theorem zip_fst {α β : Type} : ∀ {xs : List α} {ys : List β}, xs.length = ys.length → (xs.zip ys).map (·.1) = xs
  | [], [], _ => rfl
  | x :: xs, y :: ys, h => by simp [zip_fst (xs := xs) (ys := ys) (by simpa using h)]
  | [], _ :: _, h => by simp at h
  | _ :: _, [], h => by simp at h
theorem tD_pairs : ∀ {ks : List (List Key)} {ps : List (Int × Int)}, pairsD (ks.map tD) = some ps → ks = ps.map fun p => [.inl p.1, .inl p.2]
  | [], ps, h => by simp [pairsD] at h; subst h; rfl
  | k :: ks, ps, h => by
    have := pairsD_map h
    cases ps with
    | nil => simp at this
    | cons p ps =>
      simp only [List.map_cons, List.cons.injEq] at this
      obtain ⟨e1, e2⟩ := this
      have hk : k = [.inl p.1, .inl p.2] := by
        have e3 := congrArg keyT e1
        rw [keyT_tD] at e3
        exact Option.some.inj e3
      have h2 : pairsD (ks.map tD) = some ps := by rw [e2]; exact pairsD_dP0 ps
      rw [List.map_cons, ← hk, ← tD_pairs h2]
theorem sortT_go {κ : List SK} {g : Rg} {env : En} {σ : St} {H : Hp} {p : Addr} {kvs : List (List Key × V)} {ds : List D} {dz : D} {Q : VK} (F : Frm X.K κ g env σ H) (ha : SrcT H p kvs) (al : RepAll X.K H g.own (kvs.map (·.2)) ds) (e : sortTD (dTD ((kvs.map fun p => tD p.1).zip ds)) = some dz)
    (h : ∀ v H' g', Frm X.K κ g' env σ H' → EStep [] g g' H H' → Res X.K g' .nw H H' v dz → Q v H') : rSortedT2 [.ref p] H Q := by
  simp only [sortTD] at e
  obtain ⟨ps, e2, rfl⟩ := Option.map_eq_some_iff.mp e
  rw [zip_fst (by have := al.length; rw [List.length_map] at this; rw [List.length_map, this])] at e2
  have hks : kvs.map (·.1) = ps.map fun p => [.inl p.1, .inl p.2] := tD_pairs (by rw [List.map_map]; exact e2)
  refine ⟨p, kvs, ps, rfl, ha, hks, fun xs ys l k hx hxs hs hb hy np => ?_⟩
  have rx : ∀ x ∈ xs, Rep X.K H g.own x (dP (k x)) := fun x hm => by
    obtain ⟨q, rfl, hq⟩ := hx x hm
    exact .tup (F.own_nt hq) hq (by rw [sizeLine_eq]; show 2 ≤ 2 ^ 24; decide) (.cons (.int _) (.cons (.int _) .nil))
  have rz : RepAll X.K H g.own ys ((ys.map k).map dP) := repAll_of fun x hm => rx x (hb.perm.mem_iff.mp hm)
  have e : ys.map k = psort ps := by
    refine psort_one ?_ ?_ (psort_sorted ps)
    · refine (hb.perm.map k).trans ?_
      rw [hxs]; exact (psort_perm ps).symm
    · rw [List.pairwise_map]
      refine hs.imp fun {x y} hxy => ?_
      have := SrtO.lexB_no.mp hxy
      unfold leP
      omega
  rw [e] at rz
  exact ok_lstN F rz hy np h
def sortTLD : List D → Option D
  | [d] => sortTD d
  | _ => none
theorem sortTD_f {d z : D} (h : sortTD d = some z) : ∃ m, d = dTD m := by
  unfold sortTD at h
  split at h
  · exact ⟨_, rfl⟩
  · cases h
theorem bd_sortT : BlD X.K rSortedT2 sortTLD .nw := by
  intro κ g env σ H vs ds dz Q F r e h
  match ds, e with
  | [d], e =>
    obtain ⟨m, rfl⟩ := sortTD_f e
    obtain ⟨v, rfl, rx⟩ := rda1 r
    obtain ⟨a, kvs, ds, rfl, ha, al, rfl⟩ := rx.toDT
    exact sortT_go F (.inl ha) al e h
/-- sorted(d.keys()) -/
def wKeysT (i : Nat) : WE := fun e Q => ∃ m z, e[i]? = some (some (dTD m)) ∧ sortTD (dTD m) = some z ∧ Q z e
theorem se_sortKeysT {i : Nat} {x : Str} {px p p2 apos : Pos} (hc : X.calm = true) (ho : PE X (.Name x px) (tVar i)) (hk : kindOf κ i = .o ∨ kindOf κ i = .q) (hg : Gl X "sorted") (hm : X.mg "sorted" = none)
    (hbase : attributeBase (.Name x px) "keys" X.env (eval (.Name x px) X.env) = eval (.Name x px) X.env := by rfl) (hline : (apos.endLine == p2.line) = true := by rfl)
    (he : starEach [.Call (.Attribute (.Name x px) "keys" apos) [] [] p2] X.env = (false, eval (.Call (.Attribute (.Name x px) "keys" apos) [] [] p2) X.env) :: starEach [] X.env := by rfl) (hpl : (backTo pos (starEach [] X.env)).any (·.1) = false := by rfl) :
    SE X κ M .nw (.Call (.Name "sorted" p) [.Call (.Attribute (.Name x px) "keys" apos) [] [] p2] [] pos) (wKeysT i) :=
  SE.of (pe_callB (cr_sortedT2 hc) hg hm bt_sorted (pa_cons (pe_bm0 PySem.F.plainAttrs_dict PySem.F.slot_dict_keys PySem.F.type_dict_keys mt_keysT ho hbase hline) pa_nil he) (by decide) (by decide) he hpl) fun σ H Q ⟨g, env, W, F, ⟨m, z, e1, ez, hw⟩, post⟩ => by
    obtain ⟨v0, sv, sl⟩ := F.ev i _ e1
    have sl' : ∃ a, v0 = .ref a ∧ g.al i = some a ∧ Obj1 X.K H g.own a (dTD m) := by rcases hk with hk | hk <;> rw [hk] at sl <;> exact sl
    obtain ⟨a, rfl, ea, ob⟩ := sl'
    obtain ⟨kvs, ds, ha, al, rfl⟩ := ob.r.toDT
    refine ⟨_, sv, .inr (.inr (.inl ⟨rfl, .inr ⟨_, ha⟩⟩)), a, kvs, rfl, rfl, ha, fun p np => ?_⟩
    have F1 := F.new0 (o := keysO p a) np
    have pa : a ≠ p := fun e => by rw [e, np] at ha; cases ha
    refine sortT_go F1 (.inr ⟨a, upd_same, by rw [upd_ne pa]; exact ha⟩) (al.keep (fun a o _ e => same_new np a o e) fun a q => .inl q) ez fun v H' g' F2 s2 r2 => ?_
    exact post v H' g' env z F2 ((EStep.new0 np).tr (s2.mono fun _ q => nomatch q) F F1) (r2.back fun q e => by
      cases h : H q with
      | none => rfl
      | some o => rw [same_new np _ _ h] at e; cases e) hw
/-- list(d) -/
def listTLD : List D → Option D
  | [d] => listTD d
  | _ => none
theorem listTD_f {d z : D} (h : listTD d = some z) : ∃ m, d = dTD m ∧ z = .list (m.map (·.1)) := by
  unfold listTD at h
  split at h
  · cases h; exact ⟨_, rfl, rfl⟩
  · cases h
theorem rep_kD {K : PySem.W.Frag} {H : Hp} {S : Addr → Prop} : ∀ ks : List Key, RepAll K H S (ks.map kV) (ks.map kD)
  | [] => .nil
  | .inl i :: ks => .cons (.int i) (rep_kD ks)
  | .inr x :: ks => .cons (.str x) (rep_kD ks)
theorem bd_listT : BlD X.K rListT listTLD .nw := by
  intro κ g env σ H vs ds dz Q F r e h
  match ds, e with
  | [d], e =>
    obtain ⟨m, rfl, rfl⟩ := listTD_f e
    obtain ⟨v, rfl, rx⟩ := rda1 r
    obtain ⟨a, kvs, ds, rfl, ha, al, rfl⟩ := rx.toDT
    rw [zip_fst (by have := al.length; rw [List.length_map] at this; rw [List.length_map, this])] at h
    refine ⟨a, kvs, rfl, .inl ha, fun qs l hp hl hk np => ?_⟩
    have key : ∀ {kvs : List (List Key × V)} {qs : List Addr}, Paired (fun kv q => H q = some (.tup (kv.1.map kV))) kvs qs → (∀ kv ∈ kvs, kv.1.length ≤ sizeLine) → RepAll X.K H g.own (qs.map V.ref) (kvs.map fun p => tD p.1) := by
      intro kvs qs hp
      induction hp with
      | nil => intro _; exact .nil
      | cons h1 _ ih => intro hz; exact .cons (.tup (F.own_nt h1) h1 (by rw [List.length_map]; exact hz _ (by simp)) (rep_kD _)) (ih fun kv hm => hz kv (by simp [hm]))
    exact ok_lstN F (key hp hk) (by rw [List.length_map]; exact hl) np h
/-! tuple(reversed(xs)) -/
def tupRevD : D → Option D
  | .list xs => some (.tuple xs.reverse)
  | _ => none
theorem se_tupRev {p p2 pos2 : Pos} (hc : X.calm = true) (hg : Gl X "tuple") (hm : X.mg "tuple" = none) (hg2 : Gl X "reversed") (hm2 : X.mg "reversed" = none) (ha : SE X κ M ka a wa) (pa : ka.rdable = true := by rfl)
    (na : starEach [a] X.env = (false, eval a X.env) :: starEach [] X.env := by rfl) : SE X κ M .fz (.Call (.Name "tuple" p) [.Call (.Name "reversed" p2) [a] [] pos2] [] pos) (wOp1 tupRevD wa) :=
  SE.of (RT.pe_tupRev hc hg hm hg2 hm2 ha na) fun σ H Q ⟨g, env, W, F, hw, post⟩ => ⟨g, env, _, F, hw, fun v H1 g1 e1 d F1 s1 r1 ⟨z, ez, w1⟩ => by
    cases d with
    | list xs =>
      cases ez
      obtain ⟨l, ys, rfl, ra, za, la⟩ := (r1.rdb pa).toLst
      refine ⟨l, ys, rfl, .inl ra, fun q nq => ?_⟩
      refine ok_tup F1 la.reverse (by rw [List.length_reverse]; exact za) nq fun v H' g' F2 s2 r2 => ?_
      exact post v H' g' e1 _ F2 (s1.tr (s2.mono fun _ q => nomatch q) F F1) (r2.back fun p q => s1.there F F1 q) w1
    | _ => cases ez⟩
/-! bits -/
def shlD : D → D → Option D
  | .int a, .int b => if 0 ≤ b ∧ b ≤ 1000 ∧ a.natAbs < 2 ^ 64 then some (.int (a * 2 ^ b.toNat)) else none
  | _, _ => none
def shrD : D → D → Option D
  | .int a, .int b => if 0 ≤ b then some (.int (a / 2 ^ b.toNat)) else none
  | _, _ => none
def andBD : D → D → Option D
  | .int a, .int b => some (.int (Builtin.bitAnd a b))
  | _, _ => none
def orBD : D → D → Option D
  | .int a, .int b => some (.int (Builtin.bitOr a b))
  | _, _ => none
def xorBD : D → D → Option D
  | .int a, .int b => some (.int (Builtin.bitXor a b))
  | _, _ => none
theorem od_shl {K : PySem.W.Frag} : OpD K (rI CPow fun i j => .int (i * 2 ^ j.toNat)) shlD .fz := by
  intro κ g env σ H x y dx dy dz Q F rx ry e h
  cases dx <;> cases dy <;> simp only [shlD] at e <;> first
    | (split at e
       · rename_i hm
         cases e; rw [rx.toInt, ry.toInt]; exact ⟨_, _, rfl, rfl, ⟨hm.1, by omega, hm.2.2⟩, ok_same F (.int _) h⟩
       · cases e)
    | cases e
theorem od_shr {K : PySem.W.Frag} : OpD K (rI (fun _ j => 0 ≤ j) fun i j => .int (i / 2 ^ j.toNat)) shrD .fz := by
  intro κ g env σ H x y dx dy dz Q F rx ry e h
  cases dx <;> cases dy <;> simp only [shrD] at e <;> first
    | (split at e
       · rename_i hm
         cases e; rw [rx.toInt, ry.toInt]; exact ⟨_, _, rfl, rfl, hm, ok_same F (.int _) h⟩
       · cases e)
    | cases e
theorem od_andB {K : PySem.W.Frag} : OpD K (rI0 fun i j => .int (Builtin.bitAnd i j)) andBD .fz := by
  intro κ g env σ H x y dx dy dz Q F rx ry e h
  cases dx <;> cases dy <;> simp only [andBD] at e <;> first
    | (cases e; rw [rx.toInt, ry.toInt]; exact ⟨_, _, rfl, rfl, ok_same F (.int _) h⟩)
    | cases e
theorem od_orB {K : PySem.W.Frag} : OpD K (rI0 fun i j => .int (Builtin.bitOr i j)) orBD .fz := by
  intro κ g env σ H x y dx dy dz Q F rx ry e h
  cases dx <;> cases dy <;> simp only [orBD] at e <;> first
    | (cases e; rw [rx.toInt, ry.toInt]; exact ⟨_, _, rfl, rfl, ok_same F (.int _) h⟩)
    | cases e
theorem od_xorB {K : PySem.W.Frag} : OpD K (rI0 fun i j => .int (Builtin.bitXor i j)) xorBD .fz := by
  intro κ g env σ H x y dx dy dz Q F rx ry e h
  cases dx <;> cases dy <;> simp only [xorBD] at e <;> first
    | (cases e; rw [rx.toInt, ry.toInt]; exact ⟨_, _, rfl, rfl, ok_same F (.int _) h⟩)
    | cases e
/-- a truth that is only read, as a test -/
theorem st_valR {a : Expr} {w : WE} {k : RK} (h : SE X κ M k a w) (hk : k.rdable = true := by rfl) (he : ∀ whole, isTrue a X.env whole = (do let v ← whole; standAt a.pos; holding [v] (truthy v)) := by intro _; rfl) : ST X κ M a (tVal w) :=
  ST.of (pt_val h he) fun σ H Q ⟨g, env, W, F, hw, post⟩ => ⟨g, env, _, F, hw, fun v H' g' env' d F' s r ⟨b, e, wb⟩ => by
    subst e
    exact ⟨b, ResBl hk r, post b H' g' env' F' s wb⟩⟩
/-! xs.remove(k), whole numbers -/
def removeF (xs ys : List D) : Option (D × List D) := match ys with
  | [.int k] => (intsD xs).bind fun ns => if k ∈ ns then some (.none, (ns.erase k).map .int) else none
  | _ => none
theorem md_remove {K : PySem.W.Frag} : MtD K rRemI removeF [.fz] := by
  intro κ g env σ H0 H a xs dxs ds dxs' vs z Q F hO hH zl al r e h
  match ds, vs, r, e with
  | [.int k], [u], r, e =>
    simp only [removeF, Option.bind_eq_some_iff] at e
    obtain ⟨ns, hn, e⟩ := e
    split at e
    · rename_i hk
      cases e
      have hu : u = .int k := Rep.toInt r.1
      subst hu
      have := ints_of al hn
      subst this
      obtain ⟨j, hj, h1, h2, h3⟩ := first_at hk
      refine ⟨a, ns, k, j, rfl, rfl, hH, h1, h2, h .non _ ?_ ?_ .non⟩
      · rw [h3]; exact repInts _
      · rw [List.length_map] at zl ⊢
        exact Nat.le_trans (len_erase _ _) zl
    · cases e
/-! len(d) -/
def lenTD : List D → Option D
  | [.dict ((.none, .none) :: m)] => some (.int m.length)
  | _ => none
theorem bd_lenT {K : PySem.W.Frag} : BlD K rLenT lenTD .fz := by
  intro κ g env σ H vs ds dz Q F r e h
  unfold lenTD at e
  split at e
  · rename_i m
    cases e
    obtain ⟨v, rfl, rx⟩ := rda1 r
    obtain ⟨a, kvs, ds, rfl, ha, al, rfl⟩ := RdB.toDT (m := m) rx
    have hl : ((kvs.map fun p => tD p.1).zip ds).length = kvs.length := by
      have := al.length
      rw [List.length_map] at this
      rw [List.length_zip, List.length_map, ← this, Nat.min_self]
    exact ⟨a, kvs, rfl, ha, by rw [← hl]; exact ok_same F (.int _) h⟩
  · cases e
end
end G7

set_option maxRecDepth 100000
/-! xs[a], xs[b] = v, w -/
namespace G7
open PySem PySem.Spec PyProof.Rows L2
def stIx (i : Nat) (wx : WE) (d : D) (Q : En → Prop) : En → Prop := fun e1 => (∃ xs, e1[i]? = some (some (.list xs))) ∧ wx e1 fun j e2 => ∃ k xs m, j = .int k ∧ e2[i]? = some (some (.list xs)) ∧ ixN xs.length k = some m ∧ Q (e2.set i (some (.list (xs.set m d))))
def wSetIx2 (i : Nat) (v a b : WE) : WS := fun W e => v e fun y e1 => ∃ d1 d2, y = .tuple [d1, d2] ∧ stIx i a d1 (stIx i b d2 W.nx) e1
section
variable {X : Cx} {κ : List SK} {M Me : List Nat} {k ke : RK} {e : Expr} {w : WE} {pos : Pos}
theorem st_go {i : Nat} {kx : RK} {wx : WE} (hk : kindOf κ i = .o ∨ kindOf κ i = .q) (px' : kx.rdable = true) (hi : i ∈ M) (sub : ∀ i ∈ Me, i ∈ M) {g1 : Rg} {e1 : En} {σ : St} {H1 : Hp} {v : V} {d : D} {Q : St → Hp → Prop} {Qe : En → Prop}
    (F1 : Frm X.K κ g1 e1 σ H1) (r1 : Rep X.K H1 g1.own v d) (hw : stIx i wx d Qe e1) (n : ∀ g2 e2 H2, Frm X.K κ g2 e2 σ H2 → EStep M g1 g2 H1 H2 → Qe e2 → Q σ H2) : gSub (tVar i) (cE X.K κ Me kx wx) rSetL v σ H1 Q := by
  obtain ⟨⟨xs0, e0⟩, w1⟩ := hw
  obtain ⟨v0, sv, sl⟩ := F1.ev i _ e0
  have sl' : ∃ a, v0 = .ref a ∧ g1.al i = some a ∧ Obj1 X.K H1 g1.own a (.list xs0) := by rcases hk with hk | hk <;> rw [hk] at sl <;> exact sl
  obtain ⟨a, rfl, ea, ob⟩ := sl'
  refine ⟨_, sv, g1, e1, _, F1, w1, fun y H2 g2 e2 d2 F2 s2 r2 ⟨kk, xs, m, ed, e3, em, w2⟩ => ?_⟩
  subst ed
  have ey : y = .int kk := by
    rcases r2.rdb px' with q | ⟨a, _, q⟩
    · exact q.toInt
    · cases q
  subst ey
  obtain ⟨v1, sv1, sl1⟩ := F2.ev i _ e3
  rw [sv] at sv1; cases sv1
  have sl1' : ∃ a', V.ref a = .ref a' ∧ g2.al i = some a' ∧ Obj1 X.K H2 g2.own a' (.list xs) := by rcases hk with hk | hk <;> rw [hk] at sl1 <;> exact sl1
  obtain ⟨a', ee, ea1, ob1⟩ := sl1'
  cases ee
  have rv : Rep X.K H2 g2.own v d := Res.step (k := .fz) (H0 := H1) r1 s2 F1 rfl
  cases ob1 with
  | @lst ws _ q zl al =>
    refine ⟨a, _, kk, m, rfl, rfl, q, by rw [al.length]; exact em, ?_⟩
    have off : ∀ b x, ¬ g2.own b → H2 b = some x → (upd H2 a (.lst (List.set ws m v))) b = some x := fun b x n e => by
      rw [upd_ne (fun z => n (by rw [z]; exact .inr ⟨i, ea1⟩))]; exact e
    have F3 := F2.put (d := .list (xs.set m d)) (o := .lst (List.set ws m v)) hk ea1 sv (fun ys z => by rw [q] at z; cases z) (.lst upd_same (by simpa using zl) ((RepAll.set rv m al).keep off fun _ q => .inl q))
    exact n g2 _ _ F3 ((s2.mono sub).tr (.put (o := .lst (List.set ws m v)) F2 ea1 hi) F1 F2) w2
/-- xs[a], xs[b] = v, w -/
theorem ss_setix2 {i : Nat} {x : Str} {px spos spos' px' tpos : Pos} {kt : Nat} {ia ib : Expr} {ka kb : RK} {wa wb : WE} (hc : X.calm = true) (ho : PE X (.Name x px) (tVar i)) (ho' : PE X (.Name x px') (tVar i)) (hv : SE X κ Me .fz e w) (ha : SE X κ Me ka ia wa) (hb : SE X κ Me kb ib wb) (hk : kindOf κ i = .o ∨ kindOf κ i = .q)
    (pa : ka.rdable = true := by rfl) (pb : kb.rdable = true := by rfl) (hi : i ∈ M := by decide) (sub : ∀ i ∈ Me, i ∈ M := by decide)
    (haA : ∀ v, assign (.Subscript (.Name x px) ia spos) X.env v = (do
      let ov ← holding [v] (eval (.Name x px) X.env)
      let iv ← holding [v, ov] (eval ia X.env)
      standAt spos
      holding [v, ov, iv] (setItem ov iv v)
      release [v, ov, iv] []) := by intro _; rfl)
    (haB : ∀ v, assign (.Subscript (.Name x px') ib spos') X.env v = (do
      let ov ← holding [v] (eval (.Name x px') X.env)
      let iv ← holding [v, ov] (eval ib X.env)
      standAt spos'
      holding [v, ov, iv] (setItem ov iv v)
      release [v, ov, iv] []) := by intro _; rfl)
    (hc1 : (assignEach [.Subscript (.Name x px') ib spos'] X.env).map (·.2) = assign (.Subscript (.Name x px') ib spos') X.env :: (assignEach [] X.env).map (·.2) := by rfl)
    (hc2 : (assignEach [.Subscript (.Name x px) ia spos, .Subscript (.Name x px') ib spos'] X.env).map (·.2) = assign (.Subscript (.Name x px) ia spos) X.env :: (assignEach [.Subscript (.Name x px') ib spos'] X.env).map (·.2) := by rfl)
    (hn : (assignEach [.Subscript (.Name x px) ia spos, .Subscript (.Name x px') ib spos'] X.env).length = 2 := by rfl) (hst : (assignEach [.Subscript (.Name x px) ia spos, .Subscript (.Name x px') ib spos'] X.env).findIdx? (·.1) = none := by rfl)
    (hs : swapsWithSole [.Tuple [.Subscript (.Name x px) ia spos, .Subscript (.Name x px') ib spos'] kt tpos] e pos.line X.env = pure false := by rfl) (hw : swappedStores [.Tuple [.Subscript (.Name x px) ia spos, .Subscript (.Name x px') ib spos'] kt tpos] e X.env = pure none := by rfl)
    (h1 : (assignEach [.Tuple [.Subscript (.Name x px) ia spos, .Subscript (.Name x px') ib spos'] kt tpos] X.env).map (·.2) = [assign (.Tuple [.Subscript (.Name x px) ia spos, .Subscript (.Name x px') ib spos'] kt tpos) X.env] := by rfl) :
    SS X κ M k (.Assign [.Tuple [.Subscript (.Name x px) ia spos, .Subscript (.Name x px') ib spos'] kt tpos] e pos) (wSetIx2 i w wa wb) :=
  SS.of (ps_asg hv (pg_tup hc (pgs_cons (pg_sub ho ha set_list haA) (pgs_cons (pg_sub ho' hb set_list haB) pgs_nil hc1) hc2) hn hst) hs hw h1) fun D σ H ⟨g, env, W, F, hw, n, b, c, r⟩ => ⟨g, env, _, F, hw, fun v H1 g1 e1 d F1 s1 r1 ⟨d1, d2, ed, w1⟩ => by
    subst ed
    obtain ⟨a, xs, rfl, ta, z, al⟩ := Rep.toTup r1
    cases al with
    | cons q1 al => cases al with
      | cons q2 al => cases al with
        | nil =>
          refine ⟨a, _, rfl, sqT_of ta, rfl, _, _, rfl, st_go hk pa hi sub F1 q1 w1 fun g2 e2 H2 F2 s2 w2 => ⟨_, _, rfl, st_go hk pb hi sub F2 (Res.step (k := .fz) (H0 := H1) q2 s2 F1 rfl) w2 fun g3 e3 H3 F3 s3 w3 => ⟨rfl, ?_⟩⟩⟩
          exact n g3 _ σ _ F3 ((((s1.mono sub).tr s2 F F1).tr s3 F F2).toS F F3) w3⟩
end
end G7

set_option maxRecDepth 100000
/-! enumerate of a list or of a tuple -/
namespace G7
open PySem PySem.Spec PyProof.Rows L2
open Sem (wp)
set_option maxHeartbeats 1000000 in
theorem meets_enumerate_new1 {v : Value} {o : Obj} {H : Heap → Prop} (B : Begins v o H) :
    Meets (Builtin.«enumerate.__new__» ⟨[.type "enumerate", v], []⟩) (fun _ R s => H s.heap ∧
      R (.ok (.ret (.ref (s.heap.push o).objs.size))) { s with heap := (s.heap.push o).push { cls := .type "enumerate", data := .fields #[.none, .bool false, .ref s.heap.objs.size, rawInt 0, .none, .none] } }) :=
  .of_wp fun prog w A R s h => by
    obtain ⟨hp, g, d, tk, os⟩ := s; obtain ⟨h1, h⟩ := h
    have hsub := sub_enumerate
    have q1 : ∀ {A' : Around} {E : Value → Shared → Prop} {Q : Value → Shared → Prop}, Q (.ref hp.objs.size) ⟨hp.push o, g, d, tk, os⟩ → wpAny (model prog w) A' (pyIter v) Q E ⟨hp, g, d, tk, os⟩ :=
      fun q => B.iter prog w _ _ ⟨hp, g, d, tk, os⟩ _ h1 q
    wp_walk using q1
    refine wpAny_stack_any fun st => wpAny_pure ?_
    split
    · rename_i c _ _ _ _ _
      cases (c == Value.type "enumerate")
      · wp_walk using q1
        exact ⟨_, rfl, h⟩
      · wp_walk using q1
        exact ⟨_, rfl, h⟩
    · wp_walk using q1
      exact ⟨_, rfl, h⟩
section
variable {prog : Program} {w : World} {A : Around} {E : Value → Shared → Prop} {s : Shared}
theorem enum_begins1 {v : Value} {o : Obj} {H : Heap → Prop} {Q : Value → Shared → Prop} (B : Begins v o H) (h1 : H s.heap)
    (h : ∀ h', IsEnum h' (s.heap.objs.size + 1) s.heap.objs.size 0 .none → h'.get? s.heap.objs.size = some o → h'.objs.size = s.heap.objs.size + 2 →
      (∀ b o, s.heap.get? b = some o → h'.get? b = some o) → Q (.ref (s.heap.objs.size + 1)) { s with heap := h' }) :
    wpAny (model prog w) A (call (.type "enumerate") [v]) Q E s := by
  refine callType_new F.called_enumerate (by decide) (F.typeCall_enumerate_1 _) (F.newCall_enumerate_1 _) (fun obj => F.args_object_init_2 obj _) F.entry_enumerate_new
    (meets_enumerate_new1 B) ⟨h1, ?_⟩
  have hz : (s.heap.push o).objs.size = s.heap.objs.size + 1 := Heap.size_push ..
  show _ ∧ _
  rw [hz]
  have he : IsEnum ((s.heap.push o).push { cls := .type "enumerate", data := .fields #[.none, .bool false, .ref s.heap.objs.size, rawInt 0, .none, .none] }) (s.heap.objs.size + 1) s.heap.objs.size 0 .none := by
    have := Heap.get?_push_size (s.heap.push o) (o := { cls := .type "enumerate", data := .fields #[.none, .bool false, .ref s.heap.objs.size, rawInt 0, .none, .none] }) rfl
    rw [hz] at this; exact this
  refine ⟨⟨_, he, rfl⟩, h _ he (Heap.get?_push_of_some _ (Heap.get?_push_size _ B.free)) (by rw [Heap.size_push, hz]) fun b o x => Heap.get?_push_of_some _ (Heap.get?_push_of_some _ x)⟩
end
theorem enum_endT {prog : Program} {w : World} {A : Around} {E : Value → Shared → Prop} {s : Shared} {e it l : Addr} {i : Nat} {items : Array Value} {old : Value} {Q : Option Value → Shared → Prop} (hh : A.handled = none)
    (he : IsEnum s.heap e it i old) (hit : s.heap.IsTupleIter it l i) (hl : s.heap.IsTuple l items) (hx : items[i]? = none)
    (hQ : ∀ h', Heap.ExtBut it s.heap h' → Q none { s with heap := h' }) : wpAny (model prog w) A (pyNext (.ref e)) Q E s := by
  have hT : s.TypeIs (.ref e) "enumerate" := ⟨_, he, rfl⟩
  unfold pyNext
  refine wpAny_bind (wpAny_attempt (wpAny_callSpecial?_slot (name := Str.ofString "__next__") hT F.slot_enumerate_next
    (wpAny_call_entry F.slot_enumerate_next hT F.entry_enumerate_next ?_ (F.args_enumerate_next_1 _))))
  show wpAny _ _ (field (.ref e) 2 >>= _) _ _ _
  refine wpAny_bind (wpAny_field he rfl (x := .ref it) rfl ?_)
  refine wpAny_bind (RZ.nextOf_tuple_end hh hit hl hx fun h' x he' hx' => ?_)
  obtain ⟨o, ho, hc⟩ := hx'
  refine wpAny_bind (wpAny_isInstance (T := "StopIteration") (b := true) ⟨o, ho, hc⟩ isSubtype_stop ?_)
  exact wpAny_pure (hQ _ he')
/-- the tuple at a, each item in a new pair -/
def IteT (K : PySem.W.Frag) (a : Addr) : It :=
  ⟨fun i H => ∃ (xs : List V) (x : V), SqT K H a xs ∧ xs[i]? = some x, fun i H v H' => ∃ T x, v = .ref T ∧ H T = none ∧ H' = L2.upd H T (.tup [.int (i : Nat), x]) ∧ ∀ xs, SqT K H a xs → xs[i]? = some x, fun i H => ∃ xs : List V, SqT K H a xs ∧ xs.length ≤ i⟩
theorem turn_enumT {P : Program} {w : World} {K : PySem.W.Frag} {elts : List Expr} {kk : Nat} {tpos : Pos} (a e it : Addr) :
    Turn P w K (.Tuple elts kk tpos) (IteT K a) [e, it] e (fun i h => (∃ old, IsEnum h e it ((i : Nat) : Int) old) ∧ h.IsTupleIter it a i ∧ e ≠ it) where
  mem := by simp
  obj := fun i h st b hb => by
    obtain ⟨⟨old, he⟩, ⟨o, ho, hc, hd⟩, _⟩ := st
    have e' : b = e ∨ b = it := by simpa using hb
    rcases e' with z | z
    · rw [z]; exact ⟨_, he, fun v q => nomatch q⟩
    · rw [z]; exact ⟨o, ho, fun v q => by rw [hd] at q; cases q⟩
  keep := fun i h h' st k => let ⟨⟨old, he⟩, hi, hne⟩ := st; ⟨⟨old, k e (by simp) _ he⟩, hi.at fun o q => k it (by simp) o q, hne⟩
  item := by
    intro X hP hw hK hc i pins s σ H E I hf st hg
    subst hP hw hK
    obtain ⟨⟨old, he⟩, hit, hne⟩ := st
    obtain ⟨xs, x, hq, hx⟩ := hg
    obtain ⟨its, rv, p, hz⟩ := I.tuple hq
    obtain ⟨u, hu, ru⟩ := rv.get hx
    have hel : e < s.heap.objs.size := Heap.lt_size he
    have hil : it < s.heap.objs.size := by obtain ⟨_, q, _⟩ := hit; exact Heap.lt_size q
    have pt : s.heap.IsTuple a its.toArray := p
    have hai : a ≠ it := fun z => by
      obtain ⟨o1, h1, c1, _⟩ := pt
      obtain ⟨o2, h2, c2, _⟩ := hit
      rw [z, h2] at h1; cases h1
      rw [c2] at c1; exact absurd c1 (by decide)
    have hea : e ≠ a := fun z => by
      obtain ⟨o1, h1, c1, _⟩ := pt
      have h2 : s.heap.get? e = some _ := he
      rw [z, h1] at h2; cases h2
      have c2 : (Value.type "enumerate") = Value.type "tuple" := c1
      exact absurd c2 (by decide)
    have hlt : i < its.toArray.size := by
      have := (List.getElem?_eq_some_iff.mp hu).1
      simpa using this
    refine wpAny_pyNext_enum_itemD (Draws.tuple (A := X.A.in1) (show X.A.in1.handled = none from I.ok.hd hc) it a hai its.toArray) he ⟨hit, pt⟩ hlt hne (by simp [hne, hea]) fun u' h' tk hu' ho hs' hT hsz hk => ?_
    have eu : u' = u := by
      have h1 : its[i]? = some u' := by simpa using hu'
      rw [hu] at h1; exact (Option.some.inj h1).symm
    subst eu
    refine ⟨_, rfl, wpAny_letOwnedTupleGo_enum (s := { s with heap := h', toks := tk + 1 }) ho fun h'' he' sb => ?_⟩
    have hT2 : h''.get? s.heap.objs.size = some { cls := .type "tuple", data := .seq #[.int i tk, u'] } := (sb.2 _ (Nat.ne_of_gt hel)).trans hT
    have new : ObjOk X.prog X.w (L2.upd H s.heap.objs.size (.tup [.int (i : Nat), x])) h'' s.heap.objs.size (.tup [.int (i : Nat), x]) :=
      ⟨by show 2 ≤ sizeLine; decide, [.int i tk, u'], .cons ⟨_, rfl⟩ (.cons ru .nil), ⟨_, hT2, rfl, _, rfl⟩⟩
    have I1 : Inv X pins σ (L2.upd H s.heap.objs.size (.tup [.int (i : Nat), x])) { s with heap := h'', toks := tk + 1 } :=
      I.turnedNew (ch := [e, it]) (fun b ob hb q => (sb.2 b (fun z => hb (by simp [z]))).trans (hk b ob (fun z => hb (by simp [z])) (fun z => hb (by simp [z])) q)) hf (Nat.le_refl _) new
    refine ⟨.ref s.heap.objs.size, _, I1, rfl, ⟨_, x, rfl, I.hok.fresh (Nat.le_refl _), rfl, fun ys hy => by rw [I.tuple_inj hy hq]; exact hx⟩, ⟨⟨u', ?_⟩, hs'.1.at fun o q => (sb.2 it (Ne.symm hne)).trans q, hne⟩, fun b hb => ?_⟩
    · have e1 : ((i + 1 : Nat) : Int) = (i : Int) + 1 := by omega
      rw [e1]; exact he'
    · have hb' : b < s.heap.objs.size := by
        have e' : b = e ∨ b = it := by simpa using hb
        rcases e' with z | z
        · rw [z]; exact hel
        · rw [z]; exact hil
      rw [L2.upd_ne (Nat.ne_of_lt hb')]
      exact (hf b hb).1
  done := by
    intro X hP hw hK hc i pins s σ H E I hf st hg
    subst hP hw hK
    obtain ⟨⟨old, he⟩, hit, hne⟩ := st
    obtain ⟨xs, hq, hx⟩ := hg
    obtain ⟨its, rv, p, hz⟩ := I.tuple hq
    obtain ⟨f0, f1, f2, f3, f4, f5⟩ := hf it (by simp)
    have hl := rv.length
    exact enum_endT (I.ok.hd hc) he hit (show s.heap.IsTuple a its.toArray from p) (by simp; omega) fun h' eb => ⟨rfl, I.turned (t' := s.toks) (fun b o hb q => eb b o hb q) f0 f1 f3 f4 f5⟩
  self := fun A i s Q E st h => let ⟨⟨_, he⟩, _⟩ := st; wpAny_pyIter_enum he h
def iEnumA (K : PySem.W.Frag) (ta : TA) : TI := fun σ H R => ta σ H fun vs H1 => ∃ a xs, vs = [.ref a] ∧ ((SqL K H1 a xs ∧ R (Ite K a) H1) ∨ (SqT K H1 a xs ∧ R (IteT K a) H1))
theorem pi_enumA {X : Cx} {e : Expr} {ta : TA} {p pos tpos : Pos} {elts : List Expr} {kk : Nat} (hg : Gl X "enumerate") (hm : X.mg "enumerate" = none) (ha : PA X [e] ta) (hs : starEach [e] X.env = [(false, eval e X.env)] := by rfl) :
    PI X (.Tuple elts kk tpos) (.Call (.Name "enumerate" p) [e] [] pos) (iEnumA X.K ta) := by
  refine ⟨fun pins s σ H R I h => ?_⟩
  refine Call_ (ld_blt I hg hm boot_enumerate (PyProof.Rows.callWith_type1 (thn (ha.run pos pins s σ H _ I h) fun us s1 ⟨vs, H1, I1, r1, q1⟩ => ?_) hs rfl))
  obtain ⟨a, xs, ex, hq⟩ := q1
  subst ex
  cases r1 with
  | cons r rr =>
    cases rr
    cases r
    rcases hq with ⟨hq, q⟩ | ⟨hq, q⟩
    · obtain ⟨its, rv, p', hz⟩ := I1.list hq
      refine enum_begins1 (begins_list a its.toArray) p'.isList fun h' he hit hsz hk => wpAny_pyIter_enum he ?_
      have I2 : Inv X pins σ H1 { s1 with heap := h' } := I1.kept (t' := s1.toks) hk
      refine ⟨s1.heap.objs.size + 1, [s1.heap.objs.size + 1, s1.heap.objs.size], _, _, H1, rfl, I2, turn_enum a (s1.heap.objs.size + 1) s1.heap.objs.size, ⟨⟨.none, he⟩, ⟨_, hit, rfl, rfl⟩, Nat.succ_ne_self _⟩, fun b hb => ?_, q⟩
      have e' : b = s1.heap.objs.size + 1 ∨ b = s1.heap.objs.size := by simpa using hb
      have hle : s1.heap.objs.size ≤ b := by
        rcases e' with z | z
        · rw [z]; exact Nat.le_add_right _ _
        · rw [z]; exact Nat.le_refl _
      exact I1.fpOk hle (I1.hok.fresh hle)
    · obtain ⟨its, rv, p', hz⟩ := I1.tuple hq
      refine enum_begins1 (begins_tuple a its.toArray) (show s1.heap.IsTuple a its.toArray from p') fun h' he hit hsz hk => wpAny_pyIter_enum he ?_
      have I2 : Inv X pins σ H1 { s1 with heap := h' } := I1.kept (t' := s1.toks) hk
      refine ⟨s1.heap.objs.size + 1, [s1.heap.objs.size + 1, s1.heap.objs.size], _, _, H1, rfl, I2, turn_enumT a (s1.heap.objs.size + 1) s1.heap.objs.size, ⟨⟨.none, he⟩, ⟨_, hit, rfl, rfl⟩, Nat.succ_ne_self _⟩, fun b hb => ?_, q⟩
      have e' : b = s1.heap.objs.size + 1 ∨ b = s1.heap.objs.size := by simpa using hb
      have hle : s1.heap.objs.size ≤ b := by
        rcases e' with z | z
        · rw [z]; exact Nat.le_add_right _ _
        · rw [z]; exact Nat.le_refl _
      exact I1.fpOk hle (I1.hok.fresh hle)
theorem enum_len {xs : List D} : (enumD xs).length = xs.length := by
  unfold enumD
  rw [zip_len, rangeD_len]; omega
theorem enum_get {xs : List D} {i : Nat} {x : D} (h : xs[i]? = some x) : (enumD xs)[i]? = some (.tuple [.int (i : Int), x]) := by
  have hi := (List.getElem?_eq_some_iff.mp h).1
  refine zip_get ?_ h
  rw [rangeD_get (by omega)]; simp
theorem walk_e {K : PySem.W.Frag} {N : List Nat} {a : Addr} {xs : List D} : Walk K (Ite K a) (enumD xs) (Src K N a xs true) where
  go := fun g H i h1 _ hi => by
    rw [enum_len] at hi
    obtain ⟨vs, q, al⟩ := sq_l h1
    obtain ⟨v, e, _⟩ := al.get (List.getElem?_eq_getElem hi)
    exact ⟨vs, v, q, e⟩
  yd := fun g H i v H' h1 tr hi ⟨T, x, e, n, eH, f1⟩ => by
    obtain ⟨vs, q, al⟩ := sq_l h1
    subst e eH
    obtain ⟨dx, ex, rx⟩ := al.getV (f1 vs q)
    exact ⟨same_new n, _, enum_get ex, pair_rep tr n (.int _) rx⟩
  stop := fun g H h1 => by
    obtain ⟨vs, q, al⟩ := sq_l h1
    exact ⟨vs, q, by rw [enum_len, al.length]; exact Nat.le_refl _⟩
  lenL := fun g H h1 => by rw [enum_len]; exact src_len h1
theorem walk_et {K : PySem.W.Frag} {N : List Nat} {a : Addr} {xs : List D} : Walk K (IteT K a) (enumD xs) (Src K N a xs false) where
  go := fun g H i h1 _ hi => by
    rw [enum_len] at hi
    obtain ⟨vs, q, al⟩ := sq_t h1
    obtain ⟨v, e, _⟩ := al.get (List.getElem?_eq_getElem hi)
    exact ⟨vs, v, q, e⟩
  yd := fun g H i v H' h1 tr hi ⟨T, x, e, n, eH, f1⟩ => by
    obtain ⟨vs, q, al⟩ := sq_t h1
    subst e eH
    obtain ⟨dx, ex, rx⟩ := al.getV (f1 vs q)
    exact ⟨same_new n, _, enum_get ex, pair_rep tr n (.int _) rx⟩
  stop := fun g H h1 => by
    obtain ⟨vs, q, al⟩ := sq_t h1
    exact ⟨vs, q, by rw [enum_len, al.length]; exact Nat.le_refl _⟩
  lenL := fun g H h1 => by rw [enum_len]; exact src_len h1
theorem si_enum {X : Cx} {κ : List SK} {M : List Nat} {k : RK} {a : Expr} {w : WE} {p pos : Pos} {elts : List Expr} {kk : Nat} {tpos : Pos} (hg : Gl X "enumerate") (hm : X.mg "enumerate" = none) (ha : SE X κ M k a w) (pa : k.rdable = true := by rfl)
    (hs : starEach [a] X.env = [(false, eval a X.env)] := by rfl) (he : starEach [a] X.env = (false, eval a X.env) :: starEach [] X.env := by rfl) : SI X κ M (nOf k) (.Tuple elts kk tpos) (.Call (.Name "enumerate" p) [a] [] pos) (wiEnum w) :=
  SI.of (pi_enumA hg hm (pa_cons ha pa_nil he) hs) fun σ H R ⟨g, env, W, F, hw, post⟩ => ⟨g, env, _, F, hw, fun v H1 g1 e1 d F1 s1 r1 ⟨xs, ex, w1⟩ => by
    obtain ⟨c, l, rfl, sr⟩ := src_of F1 pa r1 ex
    cases l with
    | true =>
      obtain ⟨vs, q, _⟩ := sq_l sr
      exact ⟨c, vs, rfl, .inl ⟨q, post _ H1 g1 e1 _ _ F1 s1 sr src_holds walk_e w1⟩⟩
    | false =>
      obtain ⟨vs, q, _⟩ := sq_t sr
      exact ⟨c, vs, rfl, .inr ⟨q, post _ H1 g1 e1 _ _ F1 s1 sr src_holds walk_et w1⟩⟩⟩
end G7

set_option maxRecDepth 100000
/-! for .. in reversed(a list or a tuple) -/
namespace G7
open PySem PySem.Spec PyProof.Rows L2
theorem rev_get {xs : List D} {i : Nat} (hi : i < xs.length) : xs.reverse[i]? = xs[xs.length - 1 - i]? := List.getElem?_reverse hi
theorem walk_v {K : PySem.W.Frag} {N : List Nat} {a : Addr} {xs : List D} : Walk K (Itv K a xs.length) xs.reverse (Src K N a xs true) where
  go := fun g H i h1 _ hi => by
    rw [List.length_reverse] at hi
    obtain ⟨vs, q, al⟩ := sq_l h1
    obtain ⟨v, e, _⟩ := al.get (List.getElem?_eq_getElem (show xs.length - 1 - i < xs.length by omega))
    exact ⟨hi, vs, v, q, e⟩
  yd := fun g H i v H' h1 tr hi ⟨eH, f1⟩ => by
    rw [List.length_reverse] at hi
    obtain ⟨vs, q, al⟩ := sq_l h1
    subst eH
    obtain ⟨dx, ex, rx⟩ := al.getV (f1 vs q)
    exact ⟨fun _ _ q => q, dx, by rw [rev_get hi]; exact ex, rx⟩
  stop := fun g H h1 => by
    rw [List.length_reverse]; exact Nat.le_refl _
  lenL := fun g H h1 => by rw [List.length_reverse]; exact src_len h1
theorem walk_vt {K : PySem.W.Frag} {N : List Nat} {a : Addr} {xs : List D} : Walk K (RT.ItvT K a xs.length) xs.reverse (Src K N a xs false) where
  go := fun g H i h1 _ hi => by
    rw [List.length_reverse] at hi
    obtain ⟨vs, q, al⟩ := sq_t h1
    obtain ⟨v, e, _⟩ := al.get (List.getElem?_eq_getElem (show xs.length - 1 - i < xs.length by omega))
    exact ⟨hi, vs, v, q, e⟩
  yd := fun g H i v H' h1 tr hi ⟨eH, f1⟩ => by
    rw [List.length_reverse] at hi
    obtain ⟨vs, q, al⟩ := sq_t h1
    subst eH
    obtain ⟨dx, ex, rx⟩ := al.getV (f1 vs q)
    exact ⟨fun _ _ q => q, dx, by rw [rev_get hi]; exact ex, rx⟩
  stop := fun g H h1 => by
    rw [List.length_reverse]; exact Nat.le_refl _
  lenL := fun g H h1 => by rw [List.length_reverse]; exact src_len h1
theorem si_rev {X : Cx} {κ : List SK} {M : List Nat} {k : RK} {tg a : Expr} {w : WE} {p pos : Pos} (hg : Gl X "reversed") (hm : X.mg "reversed" = none) (ha : SE X κ M k a w) (pa : k.rdable = true := by rfl)
    (he : starEach [a] X.env = (false, eval a X.env) :: starEach [] X.env := by rfl) : SI X κ M (nOf k) tg (.Call (.Name "reversed" p) [a] [] pos) (wiRev w) :=
  SI.of (RT.pi_revA hg hm ha he) fun σ H R ⟨g, env, W, F, hw, post⟩ => ⟨g, env, _, F, hw, fun v H1 g1 e1 d F1 s1 r1 ⟨xs, ex, w1⟩ => by
    obtain ⟨c, l, rfl, sr⟩ := src_of F1 pa r1 ex
    cases l with
    | true =>
      obtain ⟨vs, q, al⟩ := sq_l sr
      have hl := al.length
      exact ⟨c, vs, rfl, .inl ⟨q, by rw [hl]; exact post _ H1 g1 e1 _ _ F1 s1 sr src_holds walk_v w1⟩⟩
    | false =>
      obtain ⟨vs, q, al⟩ := sq_t sr
      have hl := al.length
      exact ⟨c, vs, rfl, .inr ⟨q, by rw [hl]; exact post _ H1 g1 e1 _ _ F1 s1 sr src_holds walk_vt w1⟩⟩⟩
/-! x, y = a, b of plain names -/
def wPar (i j : Nat) (a : WA) : WS := fun W e => a e fun ds e1 => ∃ x y, ds = [x, y] ∧ W.nx ((e1.set i (some x)).set j (some y))
theorem ss_par {X : Cx} {κ : List SK} {M Me : List Nat} {k : RK} {i j : Nat} {x y : Str} {a b : Expr} {wl : WA} {px py pt pos : Pos} {kt k2 pt2} (hc : X.calm = true) (hN : X.N.Nodup) (hi : X.N[i]? = some x) (hj : X.N[j]? = some y) (hij : i ≠ j)
    (hx : X.env.scope.names.lookup x = some .local) (hy : X.env.scope.names.lookup y = some .local) (ha : SA X κ Me [.fz, .fz] [a, b] wl) (hki : kindOf κ i = .v) (hkj : kindOf κ j = .v)
    (hw : swappedStores [.Tuple [.Name x px, .Name y py] kt pt] (.Tuple [a, b] k2 pt2) X.env = pure (some [x, y]))
    (hs : swapsWithSole [.Tuple [.Name x px, .Name y py] kt pt] (.Tuple [a, b] k2 pt2) pos.line X.env = pure false := by rfl) (sub : ∀ i ∈ Me, i ∈ M := by decide) :
    SS X κ M k (.Assign [.Tuple [.Name x px, .Name y py] kt pt] (.Tuple [a, b] k2 pt2) pos) (wPar i j wl) :=
  SS.of (ps_par hc hN hi hj hij hx hy ha hw hs) fun D σ H ⟨g, env, W, F, hw, n, b, c, r⟩ => ⟨g, env, _, F, hw, fun vs H1 g1 e1 ds F1 s1 r1 ⟨d1, d2, ed, w1⟩ => by
    subst ed
    match vs, r1 with
    | [v, u], ⟨q1, q2, _⟩ =>
      exact ⟨v, u, rfl, n g1 _ _ H1 ((F1.set (by rw [hki]; exact q1)).set (by rw [hkj]; exact q2)) ((s1.mono sub).toS F F1) w1⟩⟩
theorem i_par {i j : Nat} {a : WA} {nx bk ct : En → Prop} {rt : D → En → Prop} {e : En} (k : a e fun ds e1 => ∃ x y, ds = [x, y] ∧ nx ((e1.set i (some x)).set j (some y))) : wPar i j a ⟨nx, rt, bk, ct⟩ e := k
/-! a op1 b op2 c op3 d -/
section
variable {X : Cx} {κ : List SK} {M : List Nat} {a b c d : Expr} {pos : Pos} {ta tb tc td : TE} {ka kb kc kd : RK} {wa wb wc wd : WE}
def tChain3 (r r' r'' : R2) (ta tb tc td : TE) : TE := fun σ H Q => ta σ H fun x H1 => tb σ H1 fun y H2 => r x y H2 fun z H3 => ∃ k, z = .bl k ∧
  (if k = true then (tc σ H3 fun u H4 => r' y u H4 fun z H5 => ∃ k, z = .bl k ∧ (if k = true then td σ H5 fun w' H6 => r'' u w' H6 Q else Q (.bl false) H5)) else Q (.bl false) H3)
theorem pe_chain3 {op op' op'' : CmpOp} {r r' r'' : R2} (ho : OpR X (compareOp op) r) (ho' : OpR X (compareOp op') r') (ho'' : OpR X (compareOp op'') r'') (ha : PE X a ta) (hb : PE X b tb) (hc : PE X c tc) (hd : PE X d td)
    (hm : lastMarks [op, op', op''] [b, c, d] = false := by with_unfolding_all rfl) : PE X (.Compare a [op, op', op''] [b, c, d] pos) (tChain3 r r' r'' ta tb tc td) := by
  refine ⟨fun pins s σ H Q I h => ?_⟩
  refine Compare_chain (thn (ha.run pins s σ H _ I h) fun v s1 ⟨x, H1, I1, r1, q1⟩ => chain_link (thn (hb.run pins s1 σ H1 _ I1 q1) fun u s2 ⟨y, H2, I2, r2, q2⟩ =>
    thn (ho pins s2 σ H2 x y v u _ I2 r1 r2 q2) fun d s3 ⟨z, H3, I3, r3, k, e, q3⟩ => ?_)) hm
  subst e
  cases r3
  refine wpAny_truthy_bool ?_
  cases k with
  | false => exact ite_ff ⟨.bl false, H3, I3, rfl, q3⟩
  | true =>
    refine ite_tt (chain_link (thn (hc.run pins s3 σ H3 _ I3 q3) fun w' s4 ⟨z', H4, I4, r4, q4⟩ => thn (ho' pins s4 σ H4 y z' u w' _ I4 r2 r4 q4) fun d s5 ⟨z, H5, I5, r5, k, e, q5⟩ => ?_))
    subst e
    cases r5
    refine wpAny_truthy_bool ?_
    cases k with
    | false => exact ite_ff ⟨.bl false, H5, I5, rfl, q5⟩
    | true => exact ite_tt (chain_last (thn (hd.run pins s5 σ H5 _ I5 q5) fun w2 s6 ⟨z2, H6, I6, r6, q6⟩ => ho'' pins s6 σ H6 z' z2 w' w2 Q I6 r4 r6 q6))
theorem pt_chain3 {op op' op'' : CmpOp} {r r' r'' : R2} (ho : OpR X (compareOp op) r) (ho' : OpR X (compareOp op') r') (ho'' : OpR X (compareOp op'') r'') (ha : PE X a ta) (hb : PE X b tb) (hc : PE X c tc) (hd : PE X d td)
    (hm : lastMarks [op, op', op''] [b, c, d] = false := by with_unfolding_all rfl) : PT X (.Compare a [op, op', op''] [b, c, d] pos) (tTest (tChain3 r r' r'' ta tb tc td)) := by
  refine ⟨fun pins s σ H Q I h => ?_⟩
  refine isTrue_chain (thn (ha.run pins s σ H _ I h) fun v s1 ⟨x, H1, I1, r1, q1⟩ => test_link (thn (hb.run pins s1 σ H1 _ I1 q1) fun u s2 ⟨y, H2, I2, r2, q2⟩ =>
    thn (ho pins s2 σ H2 x y v u _ I2 r1 r2 q2) fun d s3 ⟨z, H3, I3, r3, k, e, q3⟩ => ?_)) hm
  subst e
  cases r3
  refine wpAny_truthy_bool ?_
  cases k with
  | false =>
    obtain ⟨k', e', q'⟩ := q3
    cases e'
    exact ite_ff ⟨H3, I3, q'⟩
  | true =>
    refine ite_tt (test_link (thn (hc.run pins s3 σ H3 _ I3 q3) fun w' s4 ⟨z', H4, I4, r4, q4⟩ => thn (ho' pins s4 σ H4 y z' u w' _ I4 r2 r4 q4) fun d s5 ⟨z, H5, I5, r5, k, e, q5⟩ => ?_))
    subst e
    cases r5
    refine wpAny_truthy_bool ?_
    cases k with
    | false =>
      obtain ⟨k', e', q'⟩ := q5
      cases e'
      exact ite_ff ⟨H5, I5, q'⟩
    | true =>
      refine ite_tt (test_last (thn (hd.run pins s5 σ H5 _ I5 q5) fun w2 s6 ⟨z2, H6, I6, r6, q6⟩ => thn (ho'' pins s6 σ H6 z' z2 w' w2 _ I6 r4 r6 q6) fun d s7 ⟨z, H7, I7, r7, k, e, q7⟩ => ?_))
      subst e
      cases r7
      exact wpAny_truthy_bool ⟨H7, I7, q7⟩
theorem chain_go3 {r r' r'' : R2} {f f' f'' : D → D → Option D} (hf : OpD X.K r f .fz) (hf' : OpD X.K r' f' .fz) (hf'' : OpD X.K r'' f'' .fz) (ma : stable ka M = true) (mb : stable kb M = true) (mc : stable kc M = true) (pa : ka.rdable = true) (pb : kb.rdable = true) (pc : kc.rdable = true) (pd : kd.rdable = true) (σ : St) (H : Hp) (Q : VK)
    (h : cE X.K κ M .fz (wChain3 f f' f'' wa wb wc wd) σ H Q) : tChain3 r r' r'' (cE X.K κ M ka wa) (cE X.K κ M kb wb) (cE X.K κ M kc wc) (cE X.K κ M kd wd) σ H Q := by
  obtain ⟨g, env, W, F, hw, post⟩ := h
  refine ⟨g, env, _, F, hw, fun x H1 g1 e1 d1 F1 s1 r1 w1 => ⟨g1, e1, _, F1, w1, fun y H2 g2 e2 d2 F2 s2 r2 w2 => ?_⟩⟩
  obtain ⟨kk, ek, w2⟩ := w2
  have s12 := s1.tr s2 F F1
  refine hf κ g2 e2 σ H2 x y d1 d2 _ _ F2 ((r1.step s2 F1 ma).rdb pa) (r2.rdb pb) ek fun v H3 g3 F3 s3 r3 => ⟨kk, r3.toBl, ?_⟩
  have s3' : EStep M g2 g3 H2 H3 := s3.mono fun _ q => nomatch q
  have s123 := s12.tr s3' F F2
  cases kk with
  | false => exact post _ H3 g3 e2 _ F3 s123 (.bl false) w2
  | true =>
    refine ⟨g3, e2, _, F3, w2, fun z H4 g4 e4 d4 F4 s4 r4 w4 => ?_⟩
    obtain ⟨k2, er, w4⟩ := w4
    have s1234 := s123.tr s4 F F3
    refine hf' κ g4 e4 σ H4 y z d2 d4 _ _ F4 (((r2.step s3' F2 mb).step s4 F3 mb).rdb pb) (r4.rdb pc) er fun u H5 g5 F5 s5 r5 => ⟨k2, r5.toBl, ?_⟩
    have s5' : EStep M g4 g5 H4 H5 := s5.mono fun _ q => nomatch q
    have s12345 := s1234.tr s5' F F4
    cases k2 with
    | false => exact post _ H5 g5 e4 _ F5 s12345 (.bl false) w4
    | true =>
      refine ⟨g5, e4, _, F5, w4, fun z2 H6 g6 e6 d6 F6 s6 r6 w6 => ?_⟩
      obtain ⟨rr, er2, w6⟩ := w6
      refine hf'' κ g6 e6 σ H6 z z2 d4 d6 rr Q F6 (((r4.step s5' F4 mc).step s6 F5 mc).rdb pc) (r6.rdb pd) er2 fun u2 H7 g7 F7 s7 r7 => ?_
      exact post u2 H7 g7 e6 rr F7 ((s12345.tr s6 F F5).tr (s7.mono fun _ q => nomatch q) F F6) r7 w6
theorem se_chain3 {op op' op'' : CmpOp} {r r' r'' : R2} {f f' f'' : D → D → Option D} (ho : OpR X (compareOp op) r) (hf : OpD X.K r f .fz) (ho' : OpR X (compareOp op') r') (hf' : OpD X.K r' f' .fz) (ho'' : OpR X (compareOp op'') r'') (hf'' : OpD X.K r'' f'' .fz) (ha : SE X κ M ka a wa) (hb : SE X κ M kb b wb) (hc : SE X κ M kc c wc) (hd : SE X κ M kd d wd)
    (hm : lastMarks [op, op', op''] [b, c, d] = false := by with_unfolding_all rfl) (ma : stable ka M = true := by rfl) (mb : stable kb M = true := by rfl) (mc : stable kc M = true := by rfl) (pa : ka.rdable = true := by rfl) (pb : kb.rdable = true := by rfl) (pc : kc.rdable = true := by rfl) (pd : kd.rdable = true := by rfl) : SE X κ M .fz (.Compare a [op, op', op''] [b, c, d] pos) (wChain3 f f' f'' wa wb wc wd) :=
  SE.of (pe_chain3 ho ho' ho'' ha hb hc hd hm) (chain_go3 hf hf' hf'' ma mb mc pa pb pc pd)
theorem st_chain3 {op op' op'' : CmpOp} {r r' r'' : R2} {f f' f'' : D → D → Option D} (ho : OpR X (compareOp op) r) (hf : OpD X.K r f .fz) (ho' : OpR X (compareOp op') r') (hf' : OpD X.K r' f' .fz) (ho'' : OpR X (compareOp op'') r'') (hf'' : OpD X.K r'' f'' .fz) (ha : SE X κ M ka a wa) (hb : SE X κ M kb b wb) (hc : SE X κ M kc c wc) (hd : SE X κ M kd d wd)
    (hm : lastMarks [op, op', op''] [b, c, d] = false := by with_unfolding_all rfl) (ma : stable ka M = true := by rfl) (mb : stable kb M = true := by rfl) (mc : stable kc M = true := by rfl) (pa : ka.rdable = true := by rfl) (pb : kb.rdable = true := by rfl) (pc : kc.rdable = true := by rfl) (pd : kd.rdable = true := by rfl) : ST X κ M (.Compare a [op, op', op''] [b, c, d] pos) (tVal (wChain3 f f' f'' wa wb wc wd)) :=
  ST.of (pt_chain3 ho ho' ho'' ha hb hc hd hm) fun σ H Q ⟨g, env, W, F, hw, post⟩ => chain_go3 hf hf' hf'' ma mb mc pa pb pc pd σ H _ ⟨g, env, _, F, hw, fun v H' g' env' d F' s r ⟨b, e, wb⟩ => by
    subst e
    exact ⟨b, r.toBl, post b H' g' env' F' s wb⟩⟩
end

/-! count: of a list or of a tuple known whole -/
section
variable {X : Cx} {κ : List SK} {M : List Nat} {k ka kb : RK} {a b : Expr} {wa wb : WE}
def rCountD (K : PySem.W.Frag) (mk : List PyData → PyData) : V → List V → Hp → VK → Prop := fun x xs H Q => ∃ (a : Addr) (y : V) (d : PyData) (ds : List PyData), x = V.ref a ∧ xs = [y] ∧ Dp K H (V.ref a) (mk ds) ∧ Dp K H y d ∧
  SeqAt.shaped (mk ds) = true ∧ SeqAt.shaped d = true ∧ Q (.int ((ds.countP fun z => PyData.eqv z d : Nat) : Int)) H
theorem countP_read {h : Heap} {d : PyData} {its : List Value} {ds : List PyData} (e : its.map (SeqAt.readOf h) = ds) : its.countP (fun u => PyData.eqv (SeqAt.readOf h u) d) = ds.countP fun z => PyData.eqv z d := by
  subst e
  rw [List.countP_map]; rfl
theorem mt_tcountD (hu : X.A.units + 65 < cLine) : MtR X "tuple.count" (rCountD X.K .tuple) := by
  intro pins s σ H x xs v us Q I rx rxs h
  obtain ⟨a, y, d, ds, rfl, rfl, hl, hy, sl, sd, q⟩ := h
  cases rx
  obtain ⟨uy, rfl, ry⟩ := vals1 rxs
  obtain ⟨bs, r1⟩ := Dp.reads I d y uy hy ry
  have hxs : PyData.canLayAll0 ds = true := by
    have := SeqAt.canLay_of_shaped sl
    simpa [PyData.canLay0] using this
  have hroom : X.A.units + 1 + min (PyData.depthAll ds) d.depth < cLine := room_in_shaped sd hu
  cases hl with
  | tup hs ha =>
    obtain ⟨its, rv, ⟨⟨cls, dd, data, sls⟩, ho, hc, n, hdt⟩, hlen⟩ := I.tuple hs
    simp only at hc hdt
    subst hc hdt
    obtain ⟨as, h4⟩ := Dp.readsAll I ds _ its ha rv
    have hmap : its.map (SeqAt.readOf s.heap) = ds := SeqAt.readsAll_map ds its as hxs h4
    refine call_meets PySem.F.slot_tuple_count ⟨_, ho, rfl⟩ PySem.F.entry_tuple_count (PySem.F.args_tuple_count_2 _ _)
      (SeqAt.tuple_countAt a its.toArray n dd sls uy (fun u => PyData.eqv (SeqAt.readOf s.heap u) d)) ⟨ho, SeqAt.items_eqAt (vs := its.toArray) (show ReadsAll s.heap its.toArray.toList ds as from h4) r1 hxs (SeqAt.canLay_of_shaped sd) hroom, ?_⟩
    refine ⟨.int ((ds.countP fun z => PyData.eqv z d : Nat) : Int), H, I.tok _, ⟨s.toks, ?_⟩, q⟩
    show Value.int ((its.toArray.toList.countP _ : Nat) : Int) s.toks = _
    rw [show its.toArray.toList = its from rfl, countP_read hmap]
theorem mt_lcountD (hu : X.A.units + 65 < cLine) : MtR X "list.count" (rCountD X.K .list) := by
  intro pins s σ H x xs v us Q I rx rxs h
  obtain ⟨a, y, d, ds, rfl, rfl, hl, hy, sl, sd, q⟩ := h
  cases rx
  obtain ⟨uy, rfl, ry⟩ := vals1 rxs
  obtain ⟨bs, r1⟩ := Dp.reads I d y uy hy ry
  have hxs : PyData.canLayAll0 ds = true := by
    have := SeqAt.canLay_of_shaped sl
    simpa [PyData.canLay0] using this
  have hroom : X.A.units + 1 + min (PyData.depthAll ds) d.depth < cLine := room_in_shaped sd hu
  cases hl with
  | lst hs ha =>
    obtain ⟨its, rv, ⟨⟨cls, dd, data, sls⟩, n, ho, hc, hdn, hd⟩, hlen⟩ := I.list hs
    simp only at hc hd
    subst hc hd
    obtain ⟨as, h4⟩ := Dp.readsAll I ds _ its ha rv
    have hmap : its.map (SeqAt.readOf s.heap) = ds := SeqAt.readsAll_map ds its as hxs h4
    refine call_meets PySem.F.slot_list_count ⟨_, ho, rfl⟩ PySem.F.entry_list_count (PySem.F.args_list_count_2 _ _)
      (SeqAt.list_countAt a its.toArray n dd sls uy (fun u => PyData.eqv (SeqAt.readOf s.heap u) d)) ⟨ho, SeqAt.items_eqAt (vs := its.toArray) (show ReadsAll s.heap its.toArray.toList ds as from h4) r1 hxs (SeqAt.canLay_of_shaped sd) hroom, ?_⟩
    refine ⟨.int ((ds.countP fun z => PyData.eqv z d : Nat) : Int), H, I.tok _, ⟨s.toks, ?_⟩, q⟩
    show Value.int ((its.toArray.toList.countP _ : Nat) : Int) s.toks = _
    rw [show its.toArray.toList = its from rfl, countP_read hmap]
def countD : D → D → Option D
  | .list xs, d => if okD (.list xs) = true ∧ okD d = true then some (.int ((xs.countP fun z => PyData.eqv z d : Nat) : Int)) else none
  | .dict [(.none, .tuple xs)], d => if okD (.tuple xs) = true ∧ okD d = true then some (.int ((xs.countP fun z => PyData.eqv z d : Nat) : Int)) else none
  | _, _ => none
theorem countD_some {d1 d2 z : D} (h : countD d1 d2 = some z) : ∃ xs, ((d1 = .list xs ∧ okD (.list xs) = true) ∨ (d1 = xtD xs ∧ okD (.tuple xs) = true)) ∧ okD d2 = true ∧ z = .int ((xs.countP fun z => PyData.eqv z d2 : Nat) : Int) := by
  unfold countD at h
  split at h
  · split at h
    · rename_i q; exact ⟨_, .inl ⟨rfl, q.1⟩, q.2, (Option.some.inj h).symm⟩
    · cases h
  · split at h
    · rename_i q; exact ⟨_, .inr ⟨rfl, q.1⟩, q.2, (Option.some.inj h).symm⟩
    · cases h
  · cases h
theorem se_count {p1 p2 : Pos} (hu : X.A.units + 65 < cLine) (ha : SE X κ M ka a wa) (hb : SE X κ M kb b wb) (hs : stable ka M = true := by rfl) (pa : ka.rdable = true := by rfl) (pb : kb.rdable = true := by rfl)
    (hbase : attributeBase a "count" X.env (eval a X.env) = eval a X.env := by rfl)
    (hfew : ((backTo p2 (starEach [b] X.env)).all (fun x => !x.1) && (backToKw p2 (keywordEach [] X.env)).all (fun x => x.1.isSome)
      && decide ([b].length + ([] : List Keyword).length + (if ([] : List Keyword).isEmpty then 0 else 1) < 30)) = true := by rfl)
    (hline : (p1.endLine == p2.line) = true := by rfl) (hst : starEach [b] X.env = (false, eval b X.env) :: starEach [] X.env := by rfl) (hplain : (backTo p2 (starEach [] X.env)).any (·.1) = false := by rfl) :
    SE X κ M .fz (.Call (.Attribute a "count" p1) [b] [] p2) (wIdx countD wa wb) :=
  SE.of (pe_bm2 (name := "count") PySem.F.slot_list_count PySem.F.slot_tuple_count PySem.F.type_list_count PySem.F.type_tuple_count (mt_lcountD hu) (mt_tcountD hu) ha (pa_cons hb pa_nil hst) hbase hfew hline hst hplain)
    fun σ H Q ⟨g, env, W, F, hw, post⟩ => ⟨g, env, _, F, hw, fun x H1 g1 e1 d1 F1 s1 r1 w1 => by
      obtain ⟨hd1, w1⟩ := w1
      have q0 := r1.rdb pa
      rcases hd1 with ⟨xs, rfl⟩ | ⟨xs, rfl⟩
      · left
        obtain ⟨a0, ys, e0, h0, _, _⟩ := q0.toLst
        refine ⟨⟨a0, e0, .inl ⟨rfl, ys, .inl h0⟩⟩, g1, e1, _, F1, w1, fun y H2 g2 e2 d2 F2 s2 r2 ⟨z, ez, wz⟩ => ?_⟩
        have q1 := (r1.step s2 F1 hs).rdb pa
        obtain ⟨xs', hx, o2, rfl⟩ := countD_some ez
        rcases hx with ⟨hx, o1⟩ | ⟨hx, _⟩
        · cases hx
          refine ⟨a0, y, d2, xs, e0, rfl, ?_, (r2.rdb pb).dp o2, o1, o2, post _ H2 g2 e2 _ F2 (s1.tr s2 F F1) (.int _) wz⟩
          rw [← e0]; exact q1.dp o1
        · cases hx
      · right
        have h0 : Rep X.K H1 g1.own x (xtD xs) := by
          rcases q0 with q | ⟨a, _, q⟩
          · exact q
          · exact q.noXt.elim
        obtain ⟨a0, o0, ys, e0, n0, h0, d0, z0, _⟩ := h0.toXt
        refine ⟨⟨a0, e0, .inr ⟨rfl, o0, ys, h0, d0⟩⟩, g1, e1, _, F1, w1, fun y H2 g2 e2 d2 F2 s2 r2 ⟨z, ez, wz⟩ => ?_⟩
        have q1 := (r1.step s2 F1 hs).rdb pa
        obtain ⟨xs', hx, o2, rfl⟩ := countD_some ez
        rcases hx with ⟨hx, _⟩ | ⟨hx, o1⟩
        · cases hx
        · cases hx
          have q2 : Rep X.K H2 g2.own x (xtD xs) := by
            rcases q1 with q | ⟨a, _, q⟩
            · exact q
            · exact q.noXt.elim
          refine ⟨a0, y, d2, xs, e0, rfl, ?_, (r2.rdb pb).dp o2, o1, o2, post _ H2 g2 e2 _ F2 (s1.tr s2 F F1) (.int _) wz⟩
          have hc : (PyData.tuple xs).canLay0 = true := SeqAt.canLay_of_shaped o1
          obtain ⟨a1, o, vs, e2', n, e, _, z, al⟩ := q2.toXt
          rw [← e0, e2']
          exact .tup (sqT_of (.inl ⟨n, .inr ⟨o, e⟩⟩)) (al.dp (by simpa [PyData.canLay0] using hc))⟩
end
end G7

set_option maxRecDepth 100000
/-! own things frozen: a slot of kind f is own, or holds a thing that is nobody's own any more (data .tuple [d]) -/
namespace G7
open PySem PySem.Spec PyProof.Rows L2
/-- the slot's thing as kept -/
def toF : Nat → En → En
  | 0, some d :: e => some (.tuple [d]) :: e
  | n + 1, x :: e => x :: toF n e
  | _, e => e
theorem toF_len : ∀ (i : Nat) (e : En), (toF i e).length = e.length
  | 0, [] => rfl
  | 0, none :: _ => rfl
  | 0, some _ :: _ => rfl
  | _ + 1, [] => rfl
  | n + 1, _ :: e => by simp [toF, toF_len n e]
theorem toF_ne : ∀ (i j : Nat) (e : En), j ≠ i → (toF i e)[j]? = e[j]?
  | 0, _, [], _ => rfl
  | 0, _, none :: _, _ => rfl
  | 0, 0, some _ :: _, h => absurd rfl h
  | 0, j + 1, some _ :: _, _ => rfl
  | _ + 1, _, [], _ => rfl
  | n + 1, 0, _ :: e, _ => rfl
  | n + 1, j + 1, _ :: e, h => by simp only [toF, List.getElem?_cons_succ]; exact toF_ne n j e fun c => h (by rw [c])
theorem toF_at : ∀ (i : Nat) (e : En) (d : D), (toF i e)[i]? = some (some d) → ∃ d', e[i]? = some (some d') ∧ d = .tuple [d']
  | 0, [], _, h => by simp [toF] at h
  | 0, none :: _, _, h => by simp [toF] at h
  | 0, some x :: _, d, h => by simp [toF] at h; exact ⟨x, rfl, h.symm⟩
  | _ + 1, [], _, h => by simp [toF] at h
  | n + 1, _ :: e, d, h => by simp only [toF, List.getElem?_cons_succ] at h ⊢; exact toF_at n e d h
def NT (d : D) : Prop := ∀ d', d ≠ .tuple [d']
theorem nt_l {xs : List D} : NT (.list xs) := fun _ h => by cases h
theorem nt_d {xs : List (D × D)} : NT (.dict xs) := fun _ h => by cases h
def ownE (i : Nat) (e : En) : Prop := ∀ d, e[i]? = some (some d) → NT d
/-- s, the slot being own -/
def wAsO (i : Nat) (s : WS) : WS := fun W e => ownE i e ∧ s W e
def WD.wrap (W : WD) (i : Nat) : WD := ⟨fun e => W.nx (toF i e), fun d e => W.rt d (toF i e), fun e => W.bk (toF i e), fun e => W.ct (toF i e)⟩
/-- s, the slot being told for good -/
def wAsV (i : Nat) (s : WS) : WS := fun W e => ∃ d, e[i]? = some (some (.tuple [d])) ∧ s (W.wrap i) (e.set i (some d))
/-- the slot's thing is nobody's own from here on -/
def wFrz (i : Nat) (s : WS) : WS := fun W e => ∃ d, e[i]? = some (some d) ∧ NT d ∧ s W (e.set i (some (.tuple [d])))

section
variable {K : PySem.W.Frag} {κ : List SK} {g g' : Rg} {env env' : En} {σ : St} {H H' : Hp} {M : List Nat} {i j : Nat} {v : V} {d : D} {k : RK} {x : SK}
theorem kind_lt (hk : kindOf κ i = .f) : i < κ.length := by
  apply Classical.byContradiction
  intro c
  unfold kindOf at hk
  rw [List.getElem?_eq_none (by omega)] at hk
  cases hk
theorem kind_set (hk : kindOf κ i = .f) : kindOf (κ.set i x) i = x := by
  unfold kindOf
  rw [List.getElem?_set_self (kind_lt hk)]; rfl
theorem kind_ne (h : j ≠ i) : kindOf (κ.set i x) j = kindOf κ j := by
  unfold kindOf
  rw [List.getElem?_set_ne fun c => h c.symm]
theorem Frm.toO (F : Frm K κ g env σ H) (hk : kindOf κ i = .f) (ho : ownE i env) : Frm K (κ.set i .o) g env σ H := by
  refine ⟨by rw [List.length_set]; exact F.ln, by rw [List.length_set]; exact F.sl, fun j d e => ?_, F.inj, F.alo', F.ot', F.il, F.pl⟩
  obtain ⟨v, e1, s⟩ := F.ev j d e
  refine ⟨v, e1, ?_⟩
  by_cases hj : j = i
  · subst hj
    rw [kind_set hk]
    rw [hk] at s
    rcases s with s | ⟨d', e', _⟩
    · exact s
    · exact absurd e' (ho d e d')
  · rw [kind_ne hj]; exact s
theorem Frm.ofO (F : Frm K (κ.set i .o) g env σ H) (hk : kindOf κ i = .f) : Frm K κ g env σ H := by
  refine ⟨by rw [F.ln, List.length_set], by rw [F.sl, List.length_set], fun j d e => ?_, F.inj, F.alo', F.ot', F.il, F.pl⟩
  obtain ⟨v, e1, s⟩ := F.ev j d e
  refine ⟨v, e1, ?_⟩
  by_cases hj : j = i
  · subst hj
    rw [kind_set hk] at s
    rw [hk]
    exact .inl s
  · rw [kind_ne hj] at s; exact s
theorem Frm.toV (F : Frm K κ g env σ H) (hk : kindOf κ i = .f) (e0 : env[i]? = some (some (.tuple [d]))) : Frm K (κ.set i .v) g (env.set i (some d)) σ H := by
  refine ⟨by rw [List.length_set, List.length_set]; exact F.ln, by rw [List.length_set]; exact F.sl, fun j d2 e => ?_, F.inj, F.alo', F.ot', F.il, F.pl⟩
  by_cases hj : j = i
  · subst hj
    rw [List.getElem?_set_self (by rw [F.ln]; exact kind_lt hk)] at e
    cases e
    obtain ⟨v, e1, s⟩ := F.ev _ _ e0
    rw [kind_set hk]
    rw [hk] at s
    rcases s with ⟨a, _, _, s⟩ | ⟨d', e', s⟩
    · cases s
    · cases e'; exact ⟨v, e1, s⟩
  · rw [List.getElem?_set_ne fun c => hj c.symm] at e
    rw [kind_ne hj]
    exact F.ev j d2 e
theorem Frm.ofV (F : Frm K (κ.set i .v) g env σ H) (hk : kindOf κ i = .f) : Frm K κ g (toF i env) σ H := by
  refine ⟨by rw [toF_len, F.ln, List.length_set], by rw [F.sl, List.length_set], fun j d e => ?_, F.inj, F.alo', F.ot', F.il, F.pl⟩
  by_cases hj : j = i
  · subst hj
    obtain ⟨d', e', rfl⟩ := toF_at _ _ _ e
    obtain ⟨v, e1, s⟩ := F.ev j d' e'
    rw [kind_set hk] at s
    rw [hk]
    exact ⟨v, e1, .inr ⟨d', rfl, s⟩⟩
  · rw [toF_ne _ _ _ hj] at e
    obtain ⟨v, e1, s⟩ := F.ev j d e
    rw [kind_ne hj] at s
    exact ⟨v, e1, s⟩
theorem SStep.kind (h : SStep (κ.set i x) M g g' H H') (hk : kindOf κ i = .f) : SStep κ M g g' H H' := by
  refine ⟨h.pu, h.pd, h.up, h.dn, h.al, h.I, fun j q => h.qs j ?_, h.keep, h.th, h.pool⟩
  rw [kind_ne fun c => by rw [c, hk] at q; cases q]
  exact q
theorem ResR.kind (r : ResR K (κ.set i x) k g H H' v d) (hk : kindOf κ i = .f) (hx : x = .o ∨ x = .v) : ResR K κ k g H H' v d := by
  have hb : ∀ a, baseO κ g a → baseO (κ.set i x) g a := fun a q => q.imp id fun ⟨j, hj, e⟩ => ⟨j, by rw [kind_ne fun c => by rw [c, hk] at hj; cases hj]; exact hj, e⟩
  have less : ∀ {v d}, Rep K H' (baseO (κ.set i x) g) v d → Rep K H' (baseO κ g) v d := fun r => r.keep (fun _ _ _ q => q) fun a q => .inl (hb a q)
  cases k with
  | nw =>
    obtain ⟨p, rfl, n, r⟩ := r
    refine ⟨p, rfl, n.imp id fun ⟨j, hj, e⟩ => ⟨j, ?_, e⟩, r.keep (fun _ q => q) (fun _ _ _ q => q) fun a q => .inl (q.imp (hb a) id)⟩
    by_cases c : j = i
    · subst c; exact .inr hk
    · rw [kind_ne c] at hj; exact hj
  | fz => exact less r
  | rd => exact less r
  | ow i => exact less r
  | pl => exact less r
  | np => exact less r
/-- the frame with the slot's thing let go -/
theorem Frm.frz (F : Frm K κ g env σ H) (hk : kindOf κ i = .f) (e0 : env[i]? = some (some d)) (nt : NT d) : ∃ g', Frm K κ g' (env.set i (some (.tuple [d]))) σ H ∧ SStep κ M g g' H H := by
  obtain ⟨v0, ev0, s0⟩ := F.ev i d e0
  rw [hk] at s0
  rcases s0 with ⟨p, rfl, ep, r⟩ | ⟨d', e', _⟩
  · have own : ∀ a, Rg.own ⟨g.O, g.P, g.I, fun j => if j = i then none else g.al j⟩ a → g.own a := fun a q => by
      rcases q with q | ⟨j, q⟩
      · exact .inl q
      · simp only at q
        split at q
        · cases q
        · exact .inr ⟨j, q⟩
    have np : ¬ Rg.own ⟨g.O, g.P, g.I, fun j => if j = i then none else g.al j⟩ p := fun q => by
      rcases q with q | ⟨j, q⟩
      · exact (F.alo i p ep).1 q
      · simp only at q
        split at q
        · cases q
        · next c => exact c (F.inj j i p q ep)
    refine ⟨⟨g.O, g.P, g.I, fun j => if j = i then none else g.al j⟩, ⟨by simp [F.ln], F.sl, fun j d' e => ?_, fun j j' a e e' => ?_, fun j a e => ?_, F.ot', F.il, F.pl⟩, ⟨fun _ q => q, fun _ q => .inl q, fun _ q => q, fun _ q => .inl q, fun j a e => ?_, rfl, fun j q => ?_, fun _ _ q _ _ => q, fun _ q => q, fun b q => (F.pl b q).2⟩⟩
    · by_cases hj : j = i
      · subst hj
        rw [List.getElem?_set_self (by rw [F.ln]; exact kind_lt hk)] at e
        cases e
        refine ⟨_, ev0, ?_⟩
        rw [hk]
        exact .inr ⟨d, rfl, (r.r.keep (fun _ q => q) (fun _ _ _ q => q) fun a q => .inl (own a q)).rep np⟩
      · rw [List.getElem?_set_ne fun c => hj c.symm] at e
        obtain ⟨v', e1, s'⟩ := F.ev j d' e
        refine ⟨v', e1, ?_⟩
        cases hkj : kindOf κ j <;> rw [hkj] at s' <;> unfold SlotK at s' ⊢ <;> simp only at s' ⊢
        · exact Rep.keep (fun _ _ _ q => q) (fun a q => .inl (own a q)) s'
        · rcases s' with s' | ⟨a, rfl, np, na, s'⟩
          · exact .inl (Rep.keep (fun _ _ _ q => q) (fun a q => .inl (own a q)) s')
          · exact .inr ⟨a, rfl, np, na, s'.keep (fun _ q => q) (fun _ _ _ q => q) fun a q => .inl (own a q)⟩
        · obtain ⟨a, rfl, ea, s'⟩ := s'
          exact ⟨a, rfl, by simp [hj, ea], s'.keep (fun _ q => q) (fun _ _ _ q => q) fun a q => .inl (own a q)⟩
        · obtain ⟨a, rfl, ea, s'⟩ := s'
          exact ⟨a, rfl, by simp [hj, ea], s'.keep (fun _ q => q) (fun _ _ _ q => q) fun a q => .inl (own a q)⟩
        · exact s'
        · rcases s' with ⟨a, rfl, ea, s'⟩ | ⟨d', e', s'⟩
          · exact .inl ⟨a, rfl, by simp [hj, ea], s'.keep (fun _ q => q) (fun _ _ _ q => q) fun a q => .inl (own a q)⟩
          · exact .inr ⟨d', e', Rep.keep (fun _ _ _ q => q) (fun a q => .inl (own a q)) s'⟩
    · simp only at e e'
      split at e
      · cases e
      · split at e'
        · cases e'
        · exact F.inj j j' a e e'
    · simp only at e
      split at e
      · cases e
      · exact F.alo' j a e
    · simp only at e
      split at e
      · cases e
      · exact .inl e
    · have : j ≠ i := fun c => by rw [c, hk] at q; cases q
      simp [this]
  · exact absurd e' (nt d')
end
section
variable {X : Cx} {κ : List SK} {M Me : List Nat} {k ke : RK} {st : Stmt} {e : Expr} {w wa : WE} {s : WS} {i : Nat}
theorem ss_asO (i : Nat) (hk : kindOf κ i = .f) (h : SS X (κ.set i .o) M k st s) : SS X κ M k st (wAsO i s) :=
  SS.of h fun D σ H ⟨g, env, W, F, ⟨ho, hw⟩, n, b, c, r⟩ => ⟨g, env, W, F.toO hk ho, hw, fun g' env' σ' H' F' s' => n g' env' σ' H' (F'.ofO hk) (s'.kind hk), fun g' env' σ' H' F' s' => b g' env' σ' H' (F'.ofO hk) (s'.kind hk),
    fun g' env' σ' H' F' s' => c g' env' σ' H' (F'.ofO hk) (s'.kind hk), fun g' env' σ' H' v d F' s' rr => r g' env' σ' H' v d (F'.ofO hk) (s'.kind hk) (rr.kind hk (.inl rfl))⟩
theorem ss_asV (i : Nat) (hk : kindOf κ i = .f) (h : SS X (κ.set i .v) M k st s) : SS X κ M k st (wAsV i s) :=
  SS.of h fun D σ H ⟨g, env, W, F, ⟨d, e0, hw⟩, n, b, c, r⟩ => ⟨g, _, _, F.toV hk e0, hw, fun g' env' σ' H' F' s' => n g' _ σ' H' (F'.ofV hk) (s'.kind hk), fun g' env' σ' H' F' s' => b g' _ σ' H' (F'.ofV hk) (s'.kind hk),
    fun g' env' σ' H' F' s' => c g' _ σ' H' (F'.ofV hk) (s'.kind hk), fun g' env' σ' H' v d F' s' rr => r g' _ σ' H' v d (F'.ofV hk) (s'.kind hk) (rr.kind hk (.inr rfl))⟩
theorem ss_frz (i : Nat) (hk : kindOf κ i = .f) (h : SS X κ M k st s) : SS X κ M k st (wFrz i s) :=
  SS.of h fun D σ H ⟨g, env, W, F, ⟨d, e0, nt, hw⟩, n, b, c, r⟩ => by
    obtain ⟨g1, F1, s1⟩ := F.frz (M := M) hk e0 nt
    exact cS.go (K := X.K) (g := g) (H := H) (W1 := W) (D' := D) F1 s1 hw n b c r
end
end G7

namespace G7
namespace K19
open PySem
/-- _law_pool(cell): slots 0 cell:r; modes ['rd']; answer nw -/
def wb_l_pool : WS :=
  (wRet (wList (waCons (wBlt max2D (waCons (wC (.int 0)) (waCons (wOp2 subD (wVar 0) (wOp2 powD (wC (.int 10)) (wC (.int 18)))) waNil))) (waCons (wOp2 modD (wVar 0) (wOp2 powD (wC (.int 10)) (wC (.int 18)))) (waCons (wC (.int 0)) waNil)))))

/-- _law_next(pool, base): slots 0 pool:p, 1 base:r, 2 digit:v, 3 mixed:v, 4 stir:v; modes ['pl', 'rd']; answer fz -/
def wb_l_next : WS :=
  (wSeq (wIf (tVal (wOp2 gtD (wPlIx 0) (wC (.int 0)))) (wSeq (wAsg 2 (wOp2 modD (wPlIx 0) (wVar 1)))
    (wSeq (wPlSet 0 (wOp2 fdivD (wPlIx 0) (wVar 1)))
    (wRet (wVar 2)))) wNil)
    (wSeq (wPlSet 0 (wOp2 addD (wPlIx 0) (wC (.int 1))))
    (wSeq (wAsg 3 (wOp2 modD (wOp2 addD (wPlIx 0) (wOp2 mulID (wC (.int 6053)) (wPlIx 0))) (wC (.int 1000000007))))
    (wSeq (wAsg 4 (wOp2 modD (wOp2 mulID (wOp2 addD (wVar 3) (wC (.int 29))) (wOp2 addD (wVar 3) (wC (.int 91193)))) (wC (.int 998244353))))
    (wRet (wOp2 modD (wOp2 fdivD (wOp2 modD (wOp2 mulID (wVar 4) (wVar 4)) (wC (.int 2147483647))) (wC (.int 16))) (wVar 1)))))))

/-- _law_shuffled(pool, many): slots 0 pool:p, 1 many:r, 2 left:o, 3 found:o; modes ['pl', 'rd']; answer fz -/
def wb_l_shuffled (S_l_next : FS) : WS :=
  (wSeq (wAsg 2 (wLstRg (wiRg1 (wVar 1))))
    (wSeq (wAsg 3 (wList waNil))
    (wSeq (wWhile (tVal (wOp2 neD (wVar 2) (wList waNil))) (wExpr (wMut 3 appendF (waCons (wMut 2 popAtF (waCons (wCall S_l_next (waCons (wVar 0) (waCons (wBlt lenD (waCons (wVar 2) waNil)) waNil))) waNil)) waNil))))
    (wRet (wVar 3)))))

/-- _law_pair(a, b): slots 0 a:r, 1 b:r; modes ['rd', 'rd']; answer fz -/
def wb_l_pair : WS :=
  (wRet (wTup (waCons (wBlt min2D (waCons (wVar 0) (waCons (wVar 1) waNil))) (waCons (wBlt max2D (waCons (wVar 0) (waCons (wVar 1) waNil))) waNil))))

/-- _law_web(pool, most, room, whole): slots 0 pool:p, 1 most:r, 2 room:r, 3 whole:r, 4 many:v, 5 share:v, 6 ties:o, 7 order:v, 8 k:v, 9 pairs:o, 10 b:v, 11 a:v; modes ['pl', 'rd', 'rd', 'rd']; answer fz -/
def wb_l_web (S_l_next : FS) (S_l_shuffled : FS) (S_l_pair : FS) : WS :=
  (wSeq (wAsg 4 (wOp2 addD (wC (.int 1)) (wCall S_l_next (waCons (wVar 0) (waCons (wVar 1) waNil)))))
    (wSeq (wAsg 5 (wOp2 ixD (wList (waCons (wC (.int 0)) (waCons (wC (.int 1)) (waCons (wC (.int 2)) (waCons (wC (.int 3)) (waCons (wC (.int 4)) (waCons (wC (.int 6)) waNil))))))) (wCall S_l_next (waCons (wVar 0) (waCons (wC (.int 6)) waNil)))))
    (wSeq (wAsg 6 (wC (dTD [])))
    (wSeq (wAsg 7 (wCall S_l_shuffled (waCons (wVar 0) (waCons (wVar 4) waNil))))
    (wSeq (wIf (tVal (wVar 3)) (wFor (wiRg2 (wC (.int 1)) (wVar 4)) (gN 8) (wDputT 6 (wC (.bool true)) (wCall S_l_pair (waCons (wOp2 ixD (wVar 7) (wVar 8)) (waCons (wOp2 ixD (wVar 7) (wCall S_l_next (waCons (wVar 0) (waCons (wVar 8) waNil)))) waNil))))) wNil)
    (wSeq (wIf (tAnd (tVal (wOp2 gtD (wVar 4) (wC (.int 2)))) (tAnd (tVal (wOp2 leD (wOp2 addD (wBlt lenTD (waCons (wVar 6) waNil)) (wVar 4)) (wVar 2))) (tVal (wOp2 eqD (wCall S_l_next (waCons (wVar 0) (waCons (wC (.int 3)) waNil))) (wC (.int 0)))))) (wFor (wiRg1 (wVar 4)) (gN 8) (wDputT 6 (wC (.bool true)) (wCall S_l_pair (waCons (wOp2 ixD (wVar 7) (wVar 8)) (waCons (wOp2 ixD (wVar 7) (wOp2 subD (wVar 8) (wC (.int 1)))) waNil))))) wNil)
    (wSeq (wAsg 9 (wList waNil))
    (wSeq (wFor (wiRg1 (wVar 4)) (gN 10) (wExpr (wMut 9 extendF (waCons (wComp (wiRg1 (wVar 10)) (gN 11) [11] G7.tYes (wTup (waCons (wVar 11) (waCons (wVar 10) waNil)))) waNil))))
    (wSeq (wFor (wiSeq (wCall S_l_shuffled (waCons (wVar 0) (waCons (wBlt lenD (waCons (wVar 9) waNil)) waNil)))) (gN 8) (wIf (tAnd (tVal (wOp2 ltD (wCall S_l_next (waCons (wVar 0) (waCons (wC (.int 6)) waNil))) (wVar 5))) (tVal (wOp2 ltD (wBlt lenTD (waCons (wVar 6) waNil)) (wVar 2)))) (wDputT 6 (wC (.bool true)) (wOp2 ixD (wVar 9) (wVar 8))) wNil))
    (wRet (wTup (waCons (wVar 4) (waCons (wBlt tupD (waCons (wKeysT 6) waNil)) waNil)))))))))))))

/-- _law_turned(pointing, k): slots 0 pointing:r, 1 k:r; modes ['rd', 'rd']; answer fz -/
def wb_l_turned : WS :=
  (wRet (wOp2 addD (wOp2 addD (wSl slD (wVar 0) woN (woS (wVar 1))) (wTup (waCons (wOp2 subD (wC (.int 1)) (wOp2 ixD (wVar 0) (wVar 1))) waNil))) (wSl slD (wVar 0) (woS (wOp2 addD (wVar 1) (wC (.int 1)))) woN)))

/-- _law_flows(web, pointing): slots 0 web:r, 1 pointing:r, 2 found:o, 3 k:v, 4 a:v, 5 b:v; modes ['rd', 'rd']; answer fz -/
def wb_l_flows : WS :=
  (wSeq (wAsg 2 (wList waNil))
    (wSeq (wFor (wiEnum (wOp2 ixD (wVar 0) (wC (.int 1)))) (gT [(gN 3), (gT [(gN 4), (gN 5)])]) (wExpr (wMut 2 appendF (waCons (wOp2 ixD (wList (waCons (wTup (waCons (wVar 5) (waCons (wVar 4) waNil))) (waCons (wTup (waCons (wVar 4) (waCons (wVar 5) waNil))) waNil))) (wOp2 ixD (wVar 1) (wVar 3))) waNil))))
    (wRet (wVar 2))))

/-- _law_reached(flows, begin): slots 0 flows:r, 1 begin:v, 2 found:o, 3 at:v, 4 start:v, 5 end:v; modes ['rd', 'fz']; answer fz -/
def wb_l_reached : WS :=
  (wSeq (wAsg 2 (wList (waCons (wVar 1) waNil)))
    (wSeq (wAsg 3 (wC (.int 0)))
    (wSeq (wWhile (tVal (wOp2 ltD (wVar 3) (wBlt lenD (waCons (wVar 2) waNil)))) (wSeq (wFor (wiSeq (wVar 0)) (gT [(gN 4), (gN 5)]) (wIf (tAnd (tVal (wOp2 eqD (wVar 4) (wOp2 ixD (wVar 2) (wVar 3)))) (tVal (wOp2 notInD (wVar 5) (wVar 2)))) (wExpr (wMut 2 appendF (waCons (wVar 5) waNil))) wNil))
    (wAsg 3 (wOp2 addD (wVar 3) (wC (.int 1))))))
    (wRet (wVar 2)))))

/-- _law_free(web, fall): slots 0 web:r, 1 fall:r, 2 flows:v, 3 found:o, 4 k:v, 5 begin:v, 6 end:v; modes ['rd', 'rd']; answer fz -/
def wb_l_free (S_l_flows : FS) (S_l_reached : FS) : WS :=
  (wSeq (wAsg 2 (wCall S_l_flows (waCons (wVar 0) (waCons (wVar 1) waNil))))
    (wSeq (wAsg 3 (wList waNil))
    (wSeq (wFor (wiEnum (wVar 2)) (gT [(gN 4), (gT [(gN 5), (gN 6)])]) (wIf (tVal (wOp2 notInD (wVar 6) (wCall S_l_reached (waCons (wOp2 addD (wSl slD (wVar 2) woN (woS (wVar 4))) (wSl slD (wVar 2) (woS (wOp2 addD (wVar 4) (wC (.int 1)))) woN)) (waCons (wVar 5) waNil))))) (wExpr (wMut 3 appendF (waCons (wVar 4) waNil))) wNil))
    (wRet (wVar 3)))))

/-- _law_made_road(pool, web, one, other): slots 0 pool:p, 1 web:r, 2 one:v, 3 other:r, 4 row:o, 5 here:v, 6 some:v, 7 k:v, 8 back:v; modes ['pl', 'rd', 'fz', 'rd']; answer fz -/
def wb_l_made_road (S_l_free : FS) (S_l_next : FS) (S_l_turned : FS) : WS :=
  (wSeq (wAsg 4 (wList waNil))
    (wSeq (wAsg 5 (wVar 2))
    (wSeq (wWhile (tVal (wOp2 neD (wVar 5) (wVar 3))) (wSeq (wAsg 6 (wComp (wiSeq (wCall S_l_free (waCons (wVar 1) (waCons (wVar 5) waNil)))) (gN 7) [7] (tVal (wOp2 neD (wOp2 ixD (wVar 5) (wVar 7)) (wOp2 ixD (wVar 3) (wVar 7)))) (wVar 7)))
    (wSeq (wAsg 7 (wOp2 ixD (wVar 6) (wCall S_l_next (waCons (wVar 0) (waCons (wBlt lenD (waCons (wVar 6) waNil)) waNil)))))
    (wSeq (wIf (tAnd (tVal (wOp2 ltD (wBlt lenD (waCons (wVar 4) waNil)) (wC (.int 5)))) (tVal (wOp2 eqD (wCall S_l_next (waCons (wVar 0) (waCons (wC (.int 4)) waNil))) (wC (.int 0))))) (wSeq (wAsg 6 (wCall S_l_free (waCons (wVar 1) (waCons (wVar 5) waNil))))
    (wSeq (wAsg 8 (wOp2 ixD (wVar 6) (wCall S_l_next (waCons (wVar 0) (waCons (wBlt lenD (waCons (wVar 6) waNil)) waNil)))))
    (wExpr (wMut 4 extendF (waCons (wList (waCons (wVar 8) (waCons (wVar 8) waNil))) waNil))))) wNil)
    (wSeq (wExpr (wMut 4 appendF (waCons (wVar 7) waNil)))
    (wAsg 5 (wCall S_l_turned (waCons (wVar 5) (waCons (wVar 7) waNil)))))))))
    (wRet (wVar 4)))))

/-- _law_some_otherwise(pool, row, names): slots 0 pool:p, 1 row:v, 2 names:r, 3 found:o, 4 turn:v, 5 at:v, 6 name:v, 7 rest:v, 8 drawn_row:f, 9 k:v; modes ['pl', 'fz', 'rd']; answer nw -/
def wb_l_some_otherwise (S_l_next : FS) : WS :=
  (wSeq (wAsg 3 (wList (waCons (wVar 1) waNil)))
    (wSeq (wFor (wiRg1 (wC (.int 6))) (gN 4) (wSeq (wAsg 5 (wCall S_l_next (waCons (wVar 0) (waCons (wOp2 addD (wBlt lenD (waCons (wVar 1) waNil)) (wC (.int 1))) waNil))))
    (wSeq (wAsg 6 (wOp2 ixD (wVar 2) (wCall S_l_next (waCons (wVar 0) (waCons (wBlt lenD (waCons (wVar 2) waNil)) waNil)))))
    (wSeq (wAsg 7 (wSl slD (wVar 1) (woS (wOp2 addD (wVar 5) (wCall S_l_next (waCons (wVar 0) (waCons (wC (.int 2)) waNil))))) woN))
    (wExpr (wMut 3 appendF (waCons (wOp2 addD (wOp2 addD (wSl slD (wVar 1) woN (woS (wVar 5))) (wOp2 repLD (wList (waCons (wVar 6) waNil)) (wCall S_l_next (waCons (wVar 0) (waCons (wC (.int 2)) waNil))))) (wVar 7)) waNil)))))))
    (wSeq (wAsg 8 (wList waNil))
    (wSeq (wAsO 8 (wFor (wiRg1 (wCall S_l_next (waCons (wVar 0) (waCons (wC (.int 41)) waNil)))) (gN 9) (wExpr (wMut 8 appendF (waCons (wOp2 ixD (wVar 2) (wCall S_l_next (waCons (wVar 0) (waCons (wBlt lenD (waCons (wVar 2) waNil)) waNil)))) waNil)))))
    (wFrz 8 (wAsV 8 (wRet (wOp2 addLD (wVar 3) (wList (waCons (wVar 8) waNil))))))))))

/-- turned(web, pointing, k): slots 0 web:r, 1 pointing:r, 2 k:r; modes ['rd', 'rd', 'rd']; answer fz -/
def wb_turned : WS :=
  (wRet (wOp2 addD (wOp2 addD (wSl slD (wVar 1) woN (woS (wVar 2))) (wTup (waCons (wOp2 subD (wC (.int 1)) (wOp2 ixD (wVar 1) (wVar 2))) waNil))) (wSl slD (wVar 1) (woS (wOp2 addD (wVar 2) (wC (.int 1)))) woN)))

/-- arrows(web, pointing): slots 0 web:r, 1 pointing:r, 2 tie:v, 3 number:v; modes ['rd', 'rd']; answer fz -/
def wb_arrows : WS :=
  (wRet (wComp (wiZip2 (wOp2 ixD (wVar 0) (wC (.int 1))) (wVar 1)) (gT [(gN 2), (gN 3)]) [2, 3] G7.tYes (wTup (waCons (wOp2 ixD (wVar 2) (wOp2 subD (wC (.int 1)) (wVar 3))) (waCons (wOp2 ixD (wVar 2) (wVar 3)) waNil)))))

/-- before(some, place, left): slots 0 some:r, 1 place:r, 2 left:r, 3 one:v, 4 other:v; modes ['rd', 'rd', 'rd']; answer fz -/
def wb_before : WS :=
  (wRet (wComp (wiSeq (wVar 0)) (gT [(gN 3), (gN 4)]) [3, 4] (tAnd (tVal (wOp2 eqD (wVar 4) (wVar 1))) (tVal (wOp2 inD (wVar 3) (wVar 2)))) (wVar 3)))

/-- round_in(some, left): slots 0 some:r, 1 left:r, 2 way:o, 3 here:v; modes ['rd', 'rd']; answer fz -/
def wb_round_in (S_before : FS) : WS :=
  (wSeq (wAsg 2 (wList waNil))
    (wSeq (wAsg 3 (wOp2 ixD (wVar 1) (wC (.int 0))))
    (wSeq (wWhile (tVal (wOp2 notInD (wVar 3) (wVar 2))) (wSeq (wExpr (wMut 2 appendF (waCons (wVar 3) waNil)))
    (wAsg 3 (wOp2 ixD (wCall S_before (waCons (wVar 0) (waCons (wVar 3) (waCons (wVar 1) waNil)))) (wC (.int 0))))))
    (wRet (wOp1 tupRevD (wSl slD (wVar 2) (woS (wIdx indexD (wVar 2) (wVar 3))) woN))))))

/-- looked(web, pointing): slots 0 web:r, 1 pointing:r, 2 some:v, 3 left:o, 4 order:o, 5 open_ones:v, 6 place:v; modes ['rd', 'rd']; answer fz -/
def wb_looked (S_arrows : FS) (S_before : FS) (S_round_in : FS) : WS :=
  (wSeq (wAsg 2 (wCall S_arrows (waCons (wVar 0) (waCons (wVar 1) waNil))))
    (wSeq (wAsg 3 (wLstRg (wiRg1 (wOp2 ixD (wVar 0) (wC (.int 0))))))
    (wSeq (wAsg 4 (wList waNil))
    (wSeq (wWhile (tVal (wOp2 neD (wVar 3) (wList waNil))) (wSeq (wAsg 5 (wComp (wiSeq (wVar 3)) (gN 6) [6] (tVal (wOp2 eqD (wCall S_before (waCons (wVar 2) (waCons (wVar 6) (waCons (wVar 3) waNil)))) (wList waNil))) (wVar 6)))
    (wSeq (wIf (tVal (wOp2 eqD (wVar 5) (wList waNil))) (wRet (wTup (waCons (wC (.str "round")) (waCons (wCall S_round_in (waCons (wVar 2) (waCons (wVar 3) waNil))) waNil)))) wNil)
    (wSeq (wExpr (wMut 4 appendF (waCons (wOp2 ixD (wVar 5) (wC (.int 0))) waNil)))
    (wExpr (wMut 3 removeF (waCons (wOp2 ixD (wVar 5) (wC (.int 0))) waNil)))))))
    (wRet (wTup (waCons (wC (.str "order")) (waCons (wBlt tupD (waCons (wVar 4) waNil)) waNil))))))))

/-- is_fall(web, pointing): slots 0 web:r, 1 pointing:r; modes ['rd', 'rd']; answer fz -/
def wb_is_fall (S_looked : FS) : WS :=
  (wRet (wOp2 eqD (wOp2 ixD (wCall S_looked (waCons (wVar 0) (waCons (wVar 1) waNil))) (wC (.int 0))) (wC (.str "order"))))

/-- is_free(web, fall, k): slots 0 web:r, 1 fall:r, 2 k:r; modes ['rd', 'rd', 'rd']; answer fz -/
def wb_is_free (S_is_fall : FS) (S_turned : FS) : WS :=
  (wRet (wCall S_is_fall (waCons (wVar 0) (waCons (wCall S_turned (waCons (wVar 0) (waCons (wVar 1) (waCons (wVar 2) waNil)))) waNil))))

/-- road_right(web, one, other, row): slots 0 web:r, 1 one:v, 2 other:r, 3 row:r, 4 here:v, 5 k:v; modes ['rd', 'fz', 'rd', 'rd']; answer fz -/
def wb_road_right (S_is_free : FS) (S_turned : FS) : WS :=
  (wSeq (wAsg 4 (wVar 1))
    (wSeq (wFor (wiSeq (wVar 3)) (gN 5) (wSeq (wIf (tOr (tVal (wOp2 ltD (wVar 5) (wC (.int 0)))) (tOr (tVal (wOp2 geD (wVar 5) (wBlt lenD (waCons (wVar 1) waNil)))) (tNot (tVal (wCall S_is_free (waCons (wVar 0) (waCons (wVar 4) (waCons (wVar 5) waNil)))))))) (wRet (wC (.bool false))) wNil)
    (wAsg 4 (wCall S_turned (waCons (wVar 0) (waCons (wVar 4) (waCons (wVar 5) waNil)))))))
    (wRet (wOp2 eqD (wVar 4) (wVar 2)))))

/-- _law_fall(pool, web): slots 0 pool:p, 1 web:r, 2 rank:v, 3 a:v, 4 b:v; modes ['pl', 'rd']; answer fz -/
def wb_l_fall (S_l_shuffled : FS) : WS :=
  (wSeq (wAsg 2 (wCall S_l_shuffled (waCons (wVar 0) (waCons (wOp2 ixD (wVar 1) (wC (.int 0))) waNil))))
    (wRet (wBlt tupD (waCons (wComp (wiSeq (wOp2 ixD (wVar 1) (wC (.int 1)))) (gT [(gN 3), (gN 4)]) [3, 4] G7.tYes (wBlt intD (waCons (wOp2 ltD (wOp2 ixD (wVar 2) (wVar 3)) (wOp2 ixD (wVar 2) (wVar 4))) waNil))) waNil))))

/-- _law_there_and_back(pool, web, one, row): slots 0 pool:p, 1 web:r, 2 one:v, 3 row:r, 4 at:v, 5 here:v, 6 k:v, 7 some:v, 8 back:v; modes ['pl', 'rd', 'fz', 'rd']; answer fz -/
def wb_l_there_and_back (S_l_next : FS) (S_l_turned : FS) (S_l_free : FS) : WS :=
  (wSeq (wAsg 4 (wCall S_l_next (waCons (wVar 0) (waCons (wOp2 addD (wBlt lenD (waCons (wVar 3) waNil)) (wC (.int 1))) waNil))))
    (wSeq (wAsg 5 (wVar 2))
    (wSeq (wFor (wiSeq (wSl slD (wVar 3) woN (woS (wVar 4)))) (gN 6) (wAsg 5 (wCall S_l_turned (waCons (wVar 5) (waCons (wVar 6) waNil)))))
    (wSeq (wAsg 7 (wCall S_l_free (waCons (wVar 1) (waCons (wVar 5) waNil))))
    (wSeq (wAsg 8 (wOp2 ixD (wVar 7) (wCall S_l_next (waCons (wVar 0) (waCons (wBlt lenD (waCons (wVar 7) waNil)) waNil)))))
    (wRet (wOp2 addD (wOp2 addD (wSl slD (wVar 3) woN (woS (wVar 4))) (wList (waCons (wVar 8) (waCons (wVar 8) waNil)))) (wSl slD (wVar 3) (woS (wVar 4)) woN))))))))

/-- _law_one_otherwise(row, names, spare): slots 0 row:v, 1 names:r, 2 spare:r, 3 found:o, 4 at:v, 5 both:v, 6 name:v; modes ['fz', 'rd', 'rd']; answer nw -/
def wb_l_one_otherwise : WS :=
  (wSeq (wAsg 3 (wList (waCons (wVar 0) waNil)))
    (wSeq (wFor (wiRg1 (wBlt lenD (waCons (wVar 0) waNil))) (gN 4) (wSeq (wExpr (wMut 3 appendF (waCons (wOp2 addD (wSl slD (wVar 0) woN (woS (wVar 4))) (wSl slD (wVar 0) (woS (wOp2 addD (wVar 4) (wC (.int 1)))) woN)) waNil)))
    (wSeq (wAsg 5 (wOp2 addD (wSl slD (wVar 0) (woS (wOp2 addD (wVar 4) (wC (.int 1)))) (woS (wOp2 addD (wVar 4) (wC (.int 2))))) (wSl slD (wVar 0) (woS (wVar 4)) (woS (wOp2 addD (wVar 4) (wC (.int 1)))))))
    (wExpr (wMut 3 appendF (waCons (wOp2 addD (wOp2 addD (wSl slD (wVar 0) woN (woS (wVar 4))) (wVar 5)) (wSl slD (wVar 0) (woS (wOp2 addD (wVar 4) (wC (.int 2)))) woN)) waNil))))))
    (wSeq (wFor (wiSeq (wVar 1)) (gN 6) (wSeq (wFor (wiRg1 (wBlt lenD (waCons (wVar 0) waNil))) (gN 4) (wExpr (wMut 3 appendF (waCons (wOp2 addD (wOp2 addD (wSl slD (wVar 0) woN (woS (wVar 4))) (wList (waCons (wVar 6) waNil))) (wSl slD (wVar 0) (woS (wOp2 addD (wVar 4) (wC (.int 1)))) woN)) waNil))))
    (wExpr (wMut 3 appendF (waCons (wOp2 addD (wOp2 addD (wSl slD (wVar 0) woN (woS (wVar 2))) (wList (waCons (wVar 6) waNil))) (wSl slD (wVar 0) (woS (wVar 2)) woN)) waNil)))))
    (wRet (wVar 3)))))

/-- _law_is_fall(web, pointing): slots 0 web:r, 1 pointing:r, 2 flows:v, 3 left:v, 4 turn:v, 5 ends:v, 6 begin:v, 7 end:v, 8 place:v; modes ['rd', 'rd']; answer fz -/
def wb_l_is_fall (S_l_flows : FS) : WS :=
  (wSeq (wAsg 2 (wCall S_l_flows (waCons (wVar 0) (waCons (wVar 1) waNil))))
    (wSeq (wAsg 3 (wLstRg (wiRg1 (wOp2 ixD (wVar 0) (wC (.int 0))))))
    (wSeq (wFor (wiRg1 (wOp2 ixD (wVar 0) (wC (.int 0)))) (gN 4) (wSeq (wAsg 5 (wComp (wiSeq (wVar 2)) (gT [(gN 6), (gN 7)]) [6, 7] (tVal (wOp2 inD (wVar 6) (wVar 3))) (wVar 7)))
    (wAsg 3 (wComp (wiSeq (wVar 3)) (gN 8) [8] (tVal (wOp2 inD (wVar 8) (wVar 5))) (wVar 8)))))
    (wRet (wOp2 eqD (wVar 3) (wList waNil))))))

/-- _law_is_road(web, one, other, row): slots 0 web:r, 1 one:v, 2 other:r, 3 row:r, 4 here:v, 5 k:v; modes ['rd', 'fz', 'rd', 'rd']; answer fz -/
def wb_l_is_road (S_l_is_fall : FS) (S_l_turned : FS) : WS :=
  (wSeq (wAsg 4 (wVar 1))
    (wSeq (wFor (wiSeq (wVar 3)) (gN 5) (wSeq (wIf (tOr (tNot (tVal (wChain leD ltD (wC (.int 0)) (wVar 5) (wBlt lenD (waCons (wVar 1) waNil))))) (tNot (tVal (wCall S_l_is_fall (waCons (wVar 0) (waCons (wCall S_l_turned (waCons (wVar 4) (waCons (wVar 5) waNil))) waNil)))))) (wRet (wC (.bool false))) wNil)
    (wAsg 4 (wCall S_l_turned (waCons (wVar 4) (waCons (wVar 5) waNil))))))
    (wRet (wOp2 eqD (wVar 4) (wVar 2)))))

/-- law(script): slots 0 script:r, 1 cell:v, 2 pool:p, 3 small:v, 4 web:v, 5 one:v, 6 other:v, 7 row:v, 8 names:v, 9 some:o, 10 thing:v, 11 handed:v, 12 found:v; modes ['rd']; answer fz -/
def wb_law (S_l_pool : FS) (S_l_next : FS) (S_l_web : FS) (S_l_fall : FS) (S_l_made_road : FS) (S_l_there_and_back : FS) (S_l_some_otherwise : FS) (S_l_one_otherwise : FS) (S_road_right : FS) (S_l_is_road : FS) : WS :=
  (wSeq (wFor (wiSeq (wOp2 addD (wList (waCons (wC (.int 0)) waNil)) (wSl slD (wVar 0) woN (woS (wC (.int 6)))))) (gN 1) (wSeq (wAsgP 2 (wCall S_l_pool (waCons (wVar 1) waNil)))
    (wSeq (wAsg 3 (wOp2 eqD (wCall S_l_next (waCons (wVar 2) (waCons (wC (.int 3)) waNil))) (wC (.int 0))))
    (wSeq (wAsg 4 (wCall S_l_web (waCons (wVar 2) (waCons (wOp2 ixD (wList (waCons (wC (.int 9)) (waCons (wC (.int 5)) waNil))) (wBlt intD (waCons (wVar 3) waNil))) (waCons (wOp2 ixD (wList (waCons (wC (.int 20)) (waCons (wC (.int 6)) waNil))) (wBlt intD (waCons (wVar 3) waNil))) (waCons (wC (.bool false)) waNil))))))
    (wSeq (wPar 5 6 (waCons (wCall S_l_fall (waCons (wVar 2) (waCons (wVar 4) waNil))) (waCons (wCall S_l_fall (waCons (wVar 2) (waCons (wVar 4) waNil))) waNil)))
    (wSeq (wAsg 7 (wCall S_l_made_road (waCons (wVar 2) (waCons (wVar 4) (waCons (wVar 5) (waCons (wVar 6) waNil))))))
    (wSeq (wWhile (tAnd (tNot (tVal (wVar 3))) (tAnd (tVal (wOp2 neD (wOp2 ixD (wVar 4) (wC (.int 1))) (wTup waNil))) (tAnd (tVal (wOp2 gtD (wCall S_l_next (waCons (wVar 2) (waCons (wC (.int 8)) waNil))) (wC (.int 0)))) (tVal (wOp2 ltD (wBlt lenD (waCons (wVar 7) waNil)) (wC (.int 39))))))) (wAsg 7 (wCall S_l_there_and_back (waCons (wVar 2) (waCons (wVar 4) (waCons (wVar 5) (waCons (wVar 7) waNil)))))))
    (wSeq (wAsg 8 (wOp2 addD (wLstRg (wiRg1 (wBlt lenD (waCons (wVar 5) waNil)))) (wList (waCons (wOp1 negD (wC (.int 1))) (waCons (wBlt lenD (waCons (wVar 5) waNil)) (waCons (wOp2 addD (wBlt lenD (waCons (wVar 5) waNil)) (wCall S_l_next (waCons (wVar 2) (waCons (wOp2 powD (wC (.int 10)) (wC (.int 9))) waNil)))) waNil))))))
    (wSeq (wAsg 9 (wCall S_l_some_otherwise (waCons (wVar 2) (waCons (wVar 7) (waCons (wVar 8) waNil)))))
    (wSeq (wIf (tAnd (tVal (wVar 3)) (tVal (wOp2 ltD (wBlt lenD (waCons (wVar 7) waNil)) (wC (.int 12))))) (wExpr (wMut 9 extendF (waCons (wCall S_l_one_otherwise (waCons (wVar 7) (waCons (wVar 8) (waCons (wCall S_l_next (waCons (wVar 2) (waCons (wOp2 addD (wBlt lenD (waCons (wVar 7) waNil)) (wC (.int 1))) waNil))) waNil)))) waNil))) wNil)
    (wFor (wiSeq (wVar 9)) (gN 10) (wSeq (wAsg 11 (wBlt lstD (waCons (wVar 10) waNil)))
    (wSeq (wAsg 12 (wCall S_road_right (waCons (wVar 4) (waCons (wVar 5) (waCons (wVar 6) (waCons (wVar 11) waNil))))))
    (wSeq (wIf (tOr (tNot (tVal (wOp1 (isTD "bool") (wVar 12)))) (tVal (wOp2 neD (wVar 11) (wVar 10)))) (wRet (wC (.bool false))) wNil)
    (wSeq (wIf (tVal (wOp2 neD (wVar 12) (wCall S_l_is_road (waCons (wVar 4) (waCons (wVar 5) (waCons (wVar 6) (waCons (wVar 10) waNil))))))) (wRet (wC (.bool false))) wNil)
    (wIf (tAnd (tVal (wOp2 eqD (wCall S_l_next (waCons (wVar 2) (waCons (wC (.int 4)) waNil))) (wC (.int 0)))) (tVal (wOp2 neD (wCall S_road_right (waCons (wVar 4) (waCons (wVar 5) (waCons (wVar 6) (waCons (wBlt tupD (waCons (wVar 10) waNil)) waNil))))) (wVar 12)))) (wRet (wC (.bool false))) wNil))))))))))))))))
    (wRet (wOp2 isD (wCall S_road_right (waCons (wTup (waCons (wC (.int 1)) (waCons (wTup waNil) waNil))) (waCons (wTup waNil) (waCons (wTup waNil) (waCons (wTup waNil) waNil))))) (wC (.bool true)))))

end K19
end G7

/-! plain laws: running readings, loops by invariants, data encodings -/
namespace G7
open PySem

/-! what readings say, for simp -/
section
variable {e : En} {i j : Nat} {d x y : D} {Q : D → En → Prop} {QT : Bool → En → Prop} {QA : List D → En → Prop} {QO : Option Int → En → Prop} {W : WD} {a b c : WE} {r : WA} {s t : WT} {f : D → D → Option D} {f1 : D → Option D} {fl : List D → Option D} {S : FS} {g : WG} {lo hi : WO} {p q : WS} {it : WI}
@[simp] theorem r_var : wVar i e Q = ∃ d, e[i]? = some (some d) ∧ Q d e := rfl
@[simp] theorem r_c : wC d e Q = Q d e := rfl
@[simp] theorem r_op1 : wOp1 f1 a e Q = a e fun x e1 => ∃ z, f1 x = some z ∧ Q z e1 := rfl
@[simp] theorem r_op2 : wOp2 f a b e Q = a e fun x e1 => b e1 fun y e2 => ∃ z, f x y = some z ∧ Q z e2 := rfl
@[simp] theorem r_nil : waNil e QA = QA [] e := rfl
@[simp] theorem r_cons : waCons a r e QA = a e fun x e1 => r e1 fun xs e2 => QA (x :: xs) e2 := rfl
@[simp] theorem r_list : wList r e Q = r e fun xs e1 => xs.length ≤ lim ∧ Q (.list xs) e1 := rfl
@[simp] theorem r_tup : wTup r e Q = r e fun xs e1 => xs.length ≤ lim ∧ Q (.tuple xs) e1 := rfl
@[simp] theorem r_call : wCall S r e Q = r e fun xs e1 => S xs fun r => Q r e1 := rfl
@[simp] theorem r_blt : wBlt fl r e Q = r e fun xs e1 => ∃ z, fl xs = some z ∧ Q z e1 := rfl
@[simp] theorem r_on : woN e QO = QO none e := rfl
@[simp] theorem r_os : woS a e QO = a e fun x e1 => ∃ i, x = .int i ∧ QO (some i) e1 := rfl
@[simp] theorem r_sl {h : D → Option Int → Option Int → Option D} : wSl h a lo hi e Q = a e fun x e1 => lo e1 fun l e2 => hi e2 fun u e3 => ∃ z, h x l u = some z ∧ Q z e3 := rfl
@[simp] theorem r_val : tVal a e QT = a e fun x e1 => ∃ b, x = .bool b ∧ QT b e1 := rfl
@[simp] theorem r_tand : tAnd s t e QT = s e fun b e1 => if b = true then t e1 QT else QT false e1 := rfl
@[simp] theorem r_tor : tOr s t e QT = s e fun b e1 => if b = true then QT true e1 else t e1 QT := rfl
@[simp] theorem r_tnot : tNot s e QT = s e fun b e1 => QT (!b) e1 := rfl
@[simp] theorem r_yes : G7.tYes e QT = QT true e := rfl
@[simp] theorem r_and : wAnd a b e Q = a e fun x e1 => ∃ c, x = .bool c ∧ if c = true then b e1 Q else Q (.bool false) e1 := rfl
@[simp] theorem r_or : wOr a b e Q = a e fun x e1 => ∃ c, x = .bool c ∧ if c = true then Q (.bool true) e1 else b e1 Q := rfl
@[simp] theorem r_not : wNot a e Q = a e fun x e1 => ∃ c, x = .bool c ∧ Q (.bool (!c)) e1 := rfl
@[simp] theorem r_ife : wIfE t a b e Q = t e fun c e1 => if c = true then a e1 Q else b e1 Q := rfl
@[simp] theorem r_chain {f g : D → D → Option D} : wChain f g a b c e Q = a e fun x e1 => b e1 fun y e2 => ∃ k, f x y = some (.bool k) ∧ if k = true then c e2 fun z e3 => ∃ r, g y z = some r ∧ Q r e3 else Q (.bool false) e2 := rfl
@[simp] theorem r_snil : wNil W e = W.nx e := rfl
@[simp] theorem r_seq : wSeq p q W e = p { W with nx := fun e1 => q W e1 } e := rfl
@[simp] theorem r_asg : wAsg i a W e = a e fun x e1 => W.nx (e1.set i (some x)) := rfl
@[simp] theorem r_asgp : wAsgP i a W e = a e fun d e1 => ∃ x y z : Int, d = .list [.int x, .int y, .int z] ∧ W.nx (e1.set i (some .none)) := rfl
@[simp] theorem r_asgg : wAsgG g a W e = a e fun x e1 => ∃ e2, g x e1 = some e2 ∧ W.nx e2 := rfl
@[simp] theorem r_expr : wExpr a W e = a e fun _ e1 => W.nx e1 := rfl
@[simp] theorem r_ret : wRet a W e = a e W.rt := rfl
@[simp] theorem r_retn : wRetN W e = W.rt .none e := rfl
@[simp] theorem r_if : wIf t p q W e = t e fun c e1 => if c = true then p W e1 else q W e1 := rfl
@[simp] theorem r_brk : wBreak W e = W.bk e := rfl
@[simp] theorem r_cnt : wCont W e = W.ct e := rfl
@[simp] theorem r_for : wFor it g p W e = it e fun xs e1 => forL g p W xs e1 := rfl
@[simp] theorem r_gn : gN i x e = some (e.set i (some x)) := rfl
@[simp] theorem r_gt {gs : List WG} {xs : List D} : gT gs (.tuple xs) e = gAll gs xs e := rfl
@[simp] theorem r_gnil : gAll [] [] e = some e := rfl
@[simp] theorem r_gcons {gs : List WG} {xs : List D} : gAll (g :: gs) (x :: xs) e = (g x e).bind fun e1 => gAll gs xs e1 := rfl
@[simp] theorem r_iseq {QI : List D → En → Prop} : wiSeq a e QI = a e fun x e1 => ∃ xs, seqD x = some xs ∧ QI xs e1 := rfl
@[simp] theorem r_irg1 {QI : List D → En → Prop} : wiRg1 a e QI = a e fun x e1 => ∃ n : Int, x = .int n ∧ -(lim : Int) ≤ n ∧ n ≤ (lim : Int) ∧ QI (rangeD 0 n) e1 := rfl
@[simp] theorem r_irg2 {QI : List D → En → Prop} : wiRg2 a b e QI = a e fun x e1 => b e1 fun y e2 => ∃ m n : Int, x = .int m ∧ y = .int n ∧ -(lim : Int) ≤ m ∧ m ≤ lim ∧ -(lim : Int) ≤ n ∧ n ≤ (lim : Int) ∧ QI (rangeD m n) e2 := rfl
@[simp] theorem r_izip {QI : List D → En → Prop} : wiZip2 a b e QI = a e fun x e1 => b e1 fun y e2 => ∃ xs ys, sameK x y = true ∧ seqD x = some xs ∧ seqD y = some ys ∧ QI (zipD xs ys) e2 := rfl
@[simp] theorem r_mut {F : List D → List D → Option (D × List D)} : wMut i F r e Q = ((∃ xs, e[i]? = some (some (.list xs))) ∧ r e fun ys e1 => ∃ xs z xs', e1[i]? = some (some (.list xs)) ∧ F xs ys = some (z, xs') ∧ Q z (e1.set i (some (.list xs')))) := rfl
@[simp] theorem r_setix : wSetIx i a b W e = a e fun y e1 => (∃ xs, e1[i]? = some (some (.list xs))) ∧ b e1 fun j e2 => ∃ k xs m, j = .int k ∧ e2[i]? = some (some (.list xs)) ∧ ixN xs.length k = some m ∧ W.nx (e2.set i (some (.list (xs.set m y)))) := rfl
@[simp] theorem r_plix : wPlIx i e Q = (e[i]? = some (some .none) ∧ ∀ x : Int, Q (.int x) e) := rfl
@[simp] theorem r_plset : wPlSet i a W e = a e fun d e1 => ∃ y : Int, d = .int y ∧ e1[i]? = some (some .none) ∧ W.nx e1 := rfl
@[simp] theorem r_np : wNp a e Q = a e fun d e1 => ∃ x y z : Int, d = .list [.int x, .int y, .int z] ∧ Q .none e1 := rfl
@[simp] theorem r_lstrg : wLstRg it e Q = it e fun xs e1 => Q (.list xs) e1 := rfl
theorem r_comp {vs : List Nat} : wComp it g vs t b e Q = it e fun xs e1 => compL g vs t b (fun acc e2 => Q (.list acc) (back e1 e2 vs)) xs [] (wp e1 vs) := rfl
theorem r_while : wWhile t p W e = ∃ n, whileN t p W n e := rfl
@[simp] theorem r_never : wNever W e = False := rfl
@[simp] theorem seqD_l {xs : List D} : seqD (.list xs) = some xs := rfl
@[simp] theorem seqD_t {xs : List D} : seqD (.tuple xs) = some xs := rfl
end
@[simp] theorem addD_i (a b : Int) : addD (.int a) (.int b) = some (.int (a + b)) := rfl
@[simp] theorem subD_i (a b : Int) : subD (.int a) (.int b) = some (.int (a - b)) := rfl
@[simp] theorem leD_i (a b : Int) : leD (.int a) (.int b) = some (.bool (decide (a ≤ b))) := rfl
@[simp] theorem gtD_i (a b : Int) : gtD (.int a) (.int b) = some (.bool (decide (b < a))) := rfl
@[simp] theorem geD_i (a b : Int) : geD (.int a) (.int b) = some (.bool (decide (b ≤ a))) := rfl
@[simp] theorem ltD_i (a b : Int) : ltD (.int a) (.int b) = some (.bool (decide (a < b))) := rfl
@[simp] theorem negD_i (a : Int) : negD (.int a) = some (.int (-a)) := rfl
@[simp] theorem modD_i {a b : Int} (h : 0 < b) : modD (.int a) (.int b) = some (.int (a % b)) := by simp [modD, h]
@[simp] theorem fdivD_i {a b : Int} (h : 0 < b) (h' : b < 1073741824) : fdivD (.int a) (.int b) = some (.int (a / b)) := by simp [fdivD, h, h']
theorem mulID_i {a b : Int} (h : okMul a b = true) : mulID (.int a) (.int b) = some (.int (a * b)) := by simp [mulID, h]
theorem okMul_l {a b : Int} (h : -18446744073709551616 < a) (h' : a < 18446744073709551616) : okMul a b = true := by simp [okMul]; omega
theorem okMul_r {a b : Int} (h : -18446744073709551616 < b) (h' : b < 18446744073709551616) : okMul a b = true := by simp [okMul]; omega
@[simp] theorem okD_i (a : Int) : okD (.int a) = true := by simp [okD, SeqAt.shaped, PyData.canLay0, PyData.depth]
@[simp] theorem okD_b (a : Bool) : okD (.bool a) = true := by simp [okD, SeqAt.shaped, PyData.canLay0, PyData.depth]
@[simp] theorem okD_n : okD .none = true := by simp [okD, SeqAt.shaped, PyData.canLay0, PyData.depth]
@[simp] theorem eqv_ii (a b : Int) : PyData.eqv (.int a) (.int b) = decide (a = b) := by simp only [PyData.eqv]; exact Bool.beq_eq_decide_eq a b
@[simp] theorem eqv_bb (a b : Bool) : PyData.eqv (.bool a) (.bool b) = (a == b) := by simp only [PyData.eqv]
@[simp] theorem eqD_i (a b : Int) : eqD (.int a) (.int b) = some (.bool (decide (a = b))) := by simp [eqD]
@[simp] theorem neD_i (a b : Int) : neD (.int a) (.int b) = some (.bool (!decide (a = b))) := by simp [neD]
@[simp] theorem eqD_b (a b : Bool) : eqD (.bool a) (.bool b) = some (.bool (a == b)) := by simp [eqD]
@[simp] theorem neD_b (a b : Bool) : neD (.bool a) (.bool b) = some (.bool (!(a == b))) := by simp [neD]
@[simp] theorem isD_n (x : D) : isD x .none = isNoneD x := by cases x <;> rfl
@[simp] theorem isNotD_n (x : D) : isNotD x .none = notNoneD x := by cases x <;> rfl
@[simp] theorem lenD_l (xs : List D) : lenD [.list xs] = some (.int xs.length) := rfl
@[simp] theorem lenD_t (xs : List D) : lenD [.tuple xs] = some (.int xs.length) := rfl
@[simp] theorem tupD_l (xs : List D) : tupD [.list xs] = some (.tuple xs) := rfl
@[simp] theorem tupD_t (xs : List D) : tupD [.tuple xs] = some (.tuple xs) := rfl
@[simp] theorem lstD_l (xs : List D) : lstD [.list xs] = some (.list xs) := rfl
@[simp] theorem lstD_t (xs : List D) : lstD [.tuple xs] = some (.list xs) := rfl
@[simp] theorem max2D_i (a b : Int) : max2D [.int a, .int b] = some (.int (if b > a then b else a)) := rfl
@[simp] theorem min2D_i (a b : Int) : min2D [.int a, .int b] = some (.int (if b < a then b else a)) := rfl
@[simp] theorem intD_b (b : Bool) : intD [.bool b] = some (.int (if b then 1 else 0)) := rfl
@[simp] theorem intD_i (b : Int) : intD [.int b] = some (.int b) := rfl
@[simp] theorem intsD_map (ns : List Int) : intsD (ns.map PyData.int) = some ns := by
  induction ns with
  | nil => rfl
  | cons n ns ih => simp [intsD, ih]
@[simp] theorem boolsD_map (ns : List Bool) : boolsD (ns.map PyData.bool) = some ns := by
  induction ns with
  | nil => rfl
  | cons n ns ih => simp [boolsD, ih]
@[simp] theorem sortedD_i (ns : List Int) : sortedD [.list (ns.map .int)] = some (.list ((isort ns).map .int)) := by simp [sortedD]
@[simp] theorem sortedAD_i (ns : List Int) : sortedAD [.list (ns.map .int)] = some (.list ((isort ns).map .int)) := by simp [sortedAD]
theorem pairsD_dP : ∀ ps : List (Int × Int), pairsD (ps.map dP) = some ps
  | [] => rfl
  | p :: ps => by simp [pairsD, dP, pairsD_dP ps]
@[simp] theorem sortedAD_p (ps : List (Int × Int)) : sortedAD [.list (ps.map dP)] = some (.list ((psort ps).map dP)) := by
  cases ps with
  | nil => rfl
  | cons p ps =>
    have h : intsD ((p :: ps).map dP) = none := by simp [intsD, dP]
    have h2 := pairsD_dP (p :: ps)
    simp only [sortedAD, h, h2, Option.map_some]
@[simp] theorem allD_b (ns : List Bool) : allD [.list (ns.map .bool)] = some (.bool (ns.all id)) := by simp [allD]
@[simp] theorem anyD_b (ns : List Bool) : anyD [.list (ns.map .bool)] = some (.bool (ns.any id)) := by simp [anyD]
theorem ixD_l {xs : List D} {i : Nat} {x : D} (h : xs[i]? = some x) : ixD (.list xs) (.int (i : Int)) = some x := by
  have hi := (List.getElem?_eq_some_iff.mp h).1
  have : ixN xs.length (i : Int) = some i := by simp [ixN, hi]
  simp [ixD, this, h]
theorem ixD_t {xs : List D} {i : Nat} {x : D} (h : xs[i]? = some x) : ixD (.tuple xs) (.int (i : Int)) = some x := by
  have hi := (List.getElem?_eq_some_iff.mp h).1
  have : ixN xs.length (i : Int) = some i := by simp [ixN, hi]
  simp [ixD, this, h]
@[simp] theorem ixD_t0 (x : D) (xs : List D) : ixD (.tuple (x :: xs)) (.int 0) = some x := ixD_t (i := 0) rfl
@[simp] theorem ixD_t1 (x y : D) (xs : List D) : ixD (.tuple (x :: y :: xs)) (.int 1) = some y := ixD_t (i := 1) rfl
@[simp] theorem ixD_t2 (x y z : D) (xs : List D) : ixD (.tuple (x :: y :: z :: xs)) (.int 2) = some z := ixD_t (i := 2) rfl
@[simp] theorem ixD_l0 (x : D) (xs : List D) : ixD (.list (x :: xs)) (.int 0) = some x := ixD_l (i := 0) rfl
@[simp] theorem ixD_l1 (x y : D) (xs : List D) : ixD (.list (x :: y :: xs)) (.int 1) = some y := ixD_l (i := 1) rfl
@[simp] theorem wp_nil (e : En) : wp e [] = e := rfl
@[simp] theorem wp_cons (e : En) (v : Nat) (vs : List Nat) : wp e (v :: vs) = (wp e vs).set v none := rfl
@[simp] theorem back_nil (e e2 : En) : back e e2 [] = e2 := rfl
@[simp] theorem back_cons (e e2 : En) (v : Nat) (vs : List Nat) : back e e2 (v :: vs) = (back e e2 vs).set v ((e[v]?).getD none) := rfl
@[simp] theorem lim_val : lim = 1000000 := rfl
/-- a truth given: what is asked of it -/
@[simp] theorem ex_bl {x : Bool} {R : Bool → Prop} : (∃ b, PyData.bool x = PyData.bool b ∧ R b) = R x := by
  apply propext
  constructor
  · rintro ⟨b, e, r⟩; cases e; exact r
  · intro r; exact ⟨x, rfl, r⟩
theorem appendF_ok {xs : List D} {y : D} (h : xs.length < 1000000) : appendF xs [y] = some (.none, xs ++ [y]) := by simp [appendF, h]
theorem extendF_ok {xs ys : List D} (h : xs.length + ys.length ≤ 1000000) : extendF xs [.list ys] = some (.none, xs ++ ys) := by simp [extendF, h]
theorem insertF_ok {xs : List D} {y : D} {i : Nat} (h : xs.length < 1000000) (hi : i ≤ xs.length) : insertF xs [.int (i : Int), y] = some (.none, xs.take i ++ y :: xs.drop i) := by simp [insertF, h, hi]
theorem popAtF_ok {xs : List D} {y : D} {i : Nat} (h : xs[i]? = some y) : popAtF xs [.int (i : Int)] = some (y, xs.eraseIdx i) := by
  obtain ⟨hi, he⟩ := List.getElem?_eq_some_iff.mp h
  simp [popAtF, ixN, hi, he]
theorem addLD_ok {xs ys : List D} (h : xs.length + ys.length ≤ 1000000) : addLD (.list xs) (.list ys) = some (.list (xs ++ ys)) := by simp [addLD, h]
theorem addD_l {xs ys : List D} (h : xs.length + ys.length ≤ 1000000) : addD (.list xs) (.list ys) = some (.list (xs ++ ys)) := by simp [addD, h]
theorem addD_t {xs ys : List D} (h : xs.length + ys.length ≤ 1000000) : addD (.tuple xs) (.tuple ys) = some (.tuple (xs ++ ys)) := by simp [addD, h]
theorem ixN_nat {n i : Nat} (h : i < n) : ixN n (i : Int) = some i := by simp [ixN, h]
/-- data of whole numbers and truths at most k deep -/
def lay (k : Nat) (d : D) : Prop := d.canLay0 = true ∧ d.depth ≤ k
theorem lay_ok {k : Nat} {d : D} (h : lay k d) (hk : k ≤ 64 := by decide) : okD d = true := by
  simp only [okD, SeqAt.shaped, Bool.and_eq_true, decide_eq_true_eq]
  exact ⟨h.1, Nat.le_trans h.2 hk⟩
theorem lay_int (i : Int) {k : Nat} : lay k (.int i) := by simp [lay, PyData.canLay0, PyData.depth]
theorem lay_bool (i : Bool) {k : Nat} : lay k (.bool i) := by simp [lay, PyData.canLay0, PyData.depth]
theorem lay_none {k : Nat} : lay k .none := by simp [lay, PyData.canLay0, PyData.depth]
theorem lay_all {k : Nat} : ∀ {ds : List D}, (∀ d ∈ ds, lay k d) → PyData.canLayAll0 ds = true ∧ PyData.depthAll ds ≤ k
  | [], _ => by simp [PyData.canLayAll0, PyData.depthAll]
  | d :: ds, h => by
    obtain ⟨h1, h2⟩ := lay_all (ds := ds) fun x hx => h x (List.mem_cons_of_mem _ hx)
    obtain ⟨h3, h4⟩ := h d (List.mem_cons_self)
    simp only [PyData.canLayAll0, PyData.depthAll, h1, h3, Bool.and_self, true_and]
    omega
theorem lay_tup {k : Nat} {ds : List D} (h : ∀ d ∈ ds, lay k d) : lay (k + 1) (.tuple ds) := by
  obtain ⟨h1, h2⟩ := lay_all h
  exact ⟨by simpa [PyData.canLay0] using h1, by simp [PyData.depth]; omega⟩
theorem lay_lst {k : Nat} {ds : List D} (h : ∀ d ∈ ds, lay k d) : lay (k + 1) (.list ds) := by
  obtain ⟨h1, h2⟩ := lay_all h
  exact ⟨by simpa [PyData.canLay0] using h1, by simp [PyData.depth]; omega⟩
theorem lay_ints (ns : List Int) {k : Nat} : ∀ d ∈ ns.map PyData.int, lay k d := fun d hd => by
  obtain ⟨n, _, rfl⟩ := List.mem_map.mp hd
  exact lay_int n
theorem eqv_refl {k : Nat} {d : D} (h : lay k d) : PyData.eqv d d = true := SeqAt.eqv_refl d h.1
/-! equality of encoded lists -/
theorem eqvAll_map {α : Type} [DecidableEq α] (f : α → D) (h : ∀ a b, PyData.eqv (f a) (f b) = decide (a = b)) : ∀ xs ys : List α, PyData.eqvAll (xs.map f) (ys.map f) = decide (xs = ys)
  | [], [] => by simp [PyData.eqvAll]
  | [], _ :: _ => by simp [PyData.eqvAll]
  | _ :: _, [] => by simp [PyData.eqvAll]
  | x :: xs, y :: ys => by
    simp only [List.map_cons, PyData.eqvAll, h, eqvAll_map f h xs ys, List.cons.injEq]
    by_cases h1 : x = y <;> by_cases h2 : xs = ys <;> simp [h1, h2]
theorem eqv_tup {α : Type} [DecidableEq α] {f : α → D} (h : ∀ a b, PyData.eqv (f a) (f b) = decide (a = b)) (xs ys : List α) : PyData.eqv (.tuple (xs.map f)) (.tuple (ys.map f)) = decide (xs = ys) := by
  simp only [PyData.eqv]; exact eqvAll_map f h xs ys
theorem eqv_lst {α : Type} [DecidableEq α] {f : α → D} (h : ∀ a b, PyData.eqv (f a) (f b) = decide (a = b)) (xs ys : List α) : PyData.eqv (.list (xs.map f)) (.list (ys.map f)) = decide (xs = ys) := by
  simp only [PyData.eqv]; exact eqvAll_map f h xs ys
theorem eqv_dP (p q : Int × Int) : PyData.eqv (dP p) (dP q) = decide (p = q) := by
  obtain ⟨a, b⟩ := p; obtain ⟨c, d⟩ := q
  simp only [dP, PyData.eqv, PyData.eqvAll, eqv_ii, Prod.mk.injEq, Bool.and_true]
  by_cases h1 : a = c <;> by_cases h2 : b = d <;> simp [h1, h2]
theorem lay_dP (p : Int × Int) : lay 1 (dP p) := lay_tup fun d hd => by
  simp at hd; rcases hd with rfl | rfl <;> exact lay_int _
theorem any_map' {α : Type} [DecidableEq α] {f : α → D} (h : ∀ a b, PyData.eqv (f a) (f b) = decide (a = b)) (xs : List α) (x : α) : ((xs.map f).any fun z => PyData.eqv z (f x)) = decide (x ∈ xs) := by
  induction xs with
  | nil => simp
  | cons y ys ih =>
    simp only [List.map_cons, List.any_cons, h, ih, List.mem_cons]
    by_cases h1 : y = x
    · simp [h1]
    · have : ¬ x = y := fun z => h1 z.symm
      simp [h1, this]
theorem any_map {α : Type} [DecidableEq α] {f : α → D} (h : ∀ a b, PyData.eqv (f a) (f b) = decide (a = b)) (xs : List α) (x : α) [Decidable (x ∈ xs)] : ((xs.map f).any fun z => PyData.eqv z (f x)) = decide (x ∈ xs) := by
  rw [any_map' h]; exact decide_eq_decide.mpr Iff.rfl
theorem inD_pair (p a b : Int) : inD (.int p) (.tuple [.int a, .int b]) = some (.bool (decide (p = a) || decide (p = b))) := by
  have h : okD (.tuple [.int a, .int b]) = true := lay_ok (k := 1) (lay_tup fun d hd => by simp at hd; rcases hd with rfl | rfl <;> exact lay_int _)
  simp only [inD, seqD_t, okD_i, h, and_self, if_true, List.any_cons, List.any_nil, eqv_ii, Bool.or_false]
  congr 3 <;> exact decide_eq_decide.mpr eq_comm
theorem lay_map {α : Type} {k : Nat} {f : α → D} (h : ∀ a, lay k (f a)) (xs : List α) : ∀ d ∈ xs.map f, lay k d := fun d hd => by
  obtain ⟨a, _, rfl⟩ := List.mem_map.mp hd
  exact h a
theorem inD_l {α : Type} [DecidableEq α] {k : Nat} {f : α → D} (h : ∀ a b, PyData.eqv (f a) (f b) = decide (a = b)) (hl : ∀ a, lay k (f a)) (x : α) (xs : List α) (hk : k + 1 ≤ 64 := by decide) [Decidable (x ∈ xs)] : inD (f x) (.list (xs.map f)) = some (.bool (decide (x ∈ xs))) := by
  simp only [inD, seqD_l, lay_ok (hl x) (by omega), lay_ok (lay_lst (lay_map hl xs)) hk, and_self, if_true, any_map h]
theorem inD_t {α : Type} [DecidableEq α] {k : Nat} {f : α → D} (h : ∀ a b, PyData.eqv (f a) (f b) = decide (a = b)) (hl : ∀ a, lay k (f a)) (x : α) (xs : List α) (hk : k + 1 ≤ 64 := by decide) [Decidable (x ∈ xs)] : inD (f x) (.tuple (xs.map f)) = some (.bool (decide (x ∈ xs))) := by
  simp only [inD, seqD_t, lay_ok (hl x) (by omega), lay_ok (lay_tup (lay_map hl xs)) hk, and_self, if_true, any_map h]
theorem notInD_l {α : Type} [DecidableEq α] {k : Nat} {f : α → D} (h : ∀ a b, PyData.eqv (f a) (f b) = decide (a = b)) (hl : ∀ a, lay k (f a)) (x : α) (xs : List α) (hk : k + 1 ≤ 64 := by decide) [Decidable (x ∈ xs)] : notInD (f x) (.list (xs.map f)) = some (.bool (!decide (x ∈ xs))) := by
  simp only [notInD, seqD_l, lay_ok (hl x) (by omega), lay_ok (lay_lst (lay_map hl xs)) hk, and_self, if_true, any_map h]
theorem notInD_t {α : Type} [DecidableEq α] {k : Nat} {f : α → D} (h : ∀ a b, PyData.eqv (f a) (f b) = decide (a = b)) (hl : ∀ a, lay k (f a)) (x : α) (xs : List α) (hk : k + 1 ≤ 64 := by decide) [Decidable (x ∈ xs)] : notInD (f x) (.tuple (xs.map f)) = some (.bool (!decide (x ∈ xs))) := by
  simp only [notInD, seqD_t, lay_ok (hl x) (by omega), lay_ok (lay_tup (lay_map hl xs)) hk, and_self, if_true, any_map h]
theorem eqD_lay {k : Nat} {x y : D} (hx : lay k x) (hy : lay k y) (hk : k ≤ 64 := by decide) : eqD x y = some (.bool (PyData.eqv x y)) := by
  simp [eqD, lay_ok hx hk, lay_ok hy hk]
theorem neD_lay {k : Nat} {x y : D} (hx : lay k x) (hy : lay k y) (hk : k ≤ 64 := by decide) : neD x y = some (.bool (!PyData.eqv x y)) := by
  simp [neD, lay_ok hx hk, lay_ok hy hk]
/-! loops -/
/-- one statement, then the rest: what is known between them -/
theorem seq_cut {p q : WS} {W : WD} {e : En} (P : En → Prop) (h : ∀ R : En → Prop, (∀ e1, P e1 → R e1) → p { W with nx := R } e) (k : ∀ e1, P e1 → q W e1) : wSeq p q W e := h _ k
theorem forL_inv {g : WG} {b : WS} {W : WD} {xs : List D} (Inv : Nat → En → Prop) {e : En} (h0 : Inv 0 e)
    (hs : ∀ i e x R, xs[i]? = some x → Inv i e → (∀ e', Inv (i + 1) e' → R e') → ∃ e1, g x e = some e1 ∧ b { W with nx := R, ct := R, bk := W.nx } e1) (hend : ∀ e, Inv xs.length e → W.nx e) : forL g b W xs e := by
  have key : ∀ (ys : List D) (i : Nat) (e : En), xs.drop i = ys → i ≤ xs.length → Inv i e → forL g b W ys e := by
    intro ys
    induction ys with
    | nil =>
      intro i e hd hi h
      have : i = xs.length := by
        have := congrArg List.length hd
        simp at this; omega
      subst this
      exact hend e h
    | cons y ys ih =>
      intro i e hd hi h
      have hlt : i < xs.length := by
        have := congrArg List.length hd
        simp at this; omega
      have hx : xs[i]? = some y := by
        have : (xs.drop i)[0]? = some y := by rw [hd]; rfl
        rwa [List.getElem?_drop, Nat.add_zero] at this
      have hd' : xs.drop (i + 1) = ys := by
        rw [← List.drop_drop, hd]; rfl
      exact hs i e y _ hx h fun e' h' => ih (i + 1) e' hd' hlt h'
  exact key xs 0 e rfl (Nat.zero_le _) h0
theorem whileN_inv {t : WT} {b : WS} {W : WD} (Inv : En → Prop) (μ : En → Nat)
    (hs : ∀ e R, Inv e → (∀ e', Inv e' → μ e' < μ e → R e') → t e fun c e1 => if c = true then b { W with nx := R, ct := R, bk := W.nx } e1 else W.nx e1) {e : En} (h0 : Inv e) : wWhile t b W e := by
  have key : ∀ n e, Inv e → μ e < n → whileN t b W n e := by
    intro n
    induction n with
    | zero => intro e _ h; exact absurd h (Nat.not_lt_zero _)
    | succ n ih => intro e h hm; exact hs e _ h fun e' h' hm' => ih e' h' (by omega)
  exact ⟨μ e + 1, key _ e h0 (Nat.lt_succ_self _)⟩
/-- a comprehension whose test and element are what they are, p and f -/
theorem compL_pure {g : WG} {vs : List Nat} {t : WT} {b : WE} {Q : List D → En → Prop} {e : En} (p : D → Bool) (f : D → D) : ∀ {xs : List D} {acc : List D},
    (∀ x ∈ xs, ∃ e1, g x e = some e1 ∧ (∀ R, R (p x) e1 → t e1 R) ∧ (p x = true → ∀ R, R (f x) e1 → b e1 R) ∧ wp e1 vs = e) → Q (acc ++ (xs.filter p).map f) e → compL g vs t b Q xs acc e
  | [], acc, _, h => by simp at h; exact h
  | x :: xs, acc, hs, h => by
    obtain ⟨e1, h1, h2, h3, h4⟩ := hs x (by simp)
    refine ⟨e1, h1, h2 _ ?_⟩
    cases hp : p x with
    | true =>
      rw [if_pos rfl]
      refine h3 hp _ ?_
      rw [h4]
      refine compL_pure p f (fun y hy => hs y (by simp [hy])) ?_
      simpa [hp] using h
    | false =>
      rw [if_neg (by simp), h4]
      exact compL_pure p f (fun y hy => hs y (by simp [hy])) (by simpa [hp] using h)
theorem compL_map {α : Type} {g : WG} {vs : List Nat} {t : WT} {b : WE} {Q : List D → En → Prop} {e : En} {h : α → D} {xs : List α} {acc : List D} (p : α → Bool) (f : α → D)
    (hs : ∀ x ∈ xs, ∃ e1, g (h x) e = some e1 ∧ (∀ R, R (p x) e1 → t e1 R) ∧ (p x = true → ∀ R, R (f x) e1 → b e1 R) ∧ wp e1 vs = e) (hq : Q (acc ++ (xs.filter p).map f) e) : compL g vs t b Q (xs.map h) acc e := by
  induction xs generalizing acc with
  | nil => simp at hq; exact hq
  | cons x xs ih =>
    obtain ⟨e1, h1, h2, h3, h4⟩ := hs x (by simp)
    refine ⟨e1, h1, h2 _ ?_⟩
    cases hp : p x with
    | true =>
      rw [if_pos rfl]
      refine h3 hp _ ?_
      rw [h4]
      exact ih (fun y hy => hs y (by simp [hy])) (by simpa [hp] using hq)
    | false =>
      rw [if_neg (by simp), h4]
      exact ih (fun y hy => hs y (by simp [hy])) (by simpa [hp] using hq)
/-- a comprehension by an invariant of what has been made -/
theorem compL_inv {g : WG} {vs : List Nat} {t : WT} {b : WE} {Q : List D → En → Prop} {xs : List D} (Inv : Nat → List D → En → Prop) {e : En} (h0 : Inv 0 [] e)
    (hs : ∀ i x acc e, xs[i]? = some x → Inv i acc e → ∃ e1, g x e = some e1 ∧ ∀ (R : List D → En → Prop), (∀ acc' e', Inv (i + 1) acc' e' → R acc' e') → t e1 fun c e2 => if c = true then b e2 fun y e3 => R (acc ++ [y]) (wp e3 vs) else R acc (wp e2 vs)) (hq : ∀ acc e, Inv xs.length acc e → Q acc e) : compL g vs t b Q xs [] e := by
  have key : ∀ (ys : List D) (i : Nat) (acc : List D) (e : En), xs.drop i = ys → i ≤ xs.length → Inv i acc e → compL g vs t b Q ys acc e := by
    intro ys
    induction ys with
    | nil =>
      intro i acc e hd hi h
      have : i = xs.length := by
        have := congrArg List.length hd
        simp at this; omega
      subst this
      exact hq acc e h
    | cons y ys ih =>
      intro i acc e hd hi h
      have hlt : i < xs.length := by
        have := congrArg List.length hd
        simp at this; omega
      have hx : xs[i]? = some y := by
        have : (xs.drop i)[0]? = some y := by rw [hd]; rfl
        rwa [List.getElem?_drop, Nat.add_zero] at this
      have hd' : xs.drop (i + 1) = ys := by
        rw [← List.drop_drop, hd]; rfl
      obtain ⟨e1, h1, h2⟩ := hs i y acc e hx h
      exact ⟨e1, h1, h2 _ fun acc' e' h' => ih (i + 1) acc' e' hd' hlt h'⟩
  exact key xs 0 [] e rfl (Nat.zero_le _) h0
theorem mem_rangeD {lo hi : Int} {d : D} (h : d ∈ rangeD lo hi) : ∃ i, d = .int i ∧ lo ≤ i ∧ i < hi := by
  unfold rangeD at h
  obtain ⟨k, hk, rfl⟩ := List.mem_map.mp h
  have := List.mem_range.mp hk
  exact ⟨_, rfl, by omega, by omega⟩
def irng (lo hi : Int) : List Int := (List.range (hi - lo).toNat).map fun (i : Nat) => lo + (i : Int)
theorem rangeD_ints (lo hi : Int) : rangeD lo hi = (irng lo hi).map .int := by
  unfold rangeD irng; rw [List.map_map]; rfl
theorem mem_ints {lo hi i : Int} : i ∈ irng lo hi ↔ lo ≤ i ∧ i < hi := by
  unfold irng
  constructor
  · intro h
    obtain ⟨k, hk, rfl⟩ := List.mem_map.mp h
    have := List.mem_range.mp hk
    omega
  · intro h
    exact List.mem_map.mpr ⟨(i - lo).toNat, List.mem_range.mpr (by omega), by omega⟩
theorem ints_len (lo hi : Int) : (irng lo hi).length = (hi - lo).toNat := by simp [irng]
theorem ints_get {lo hi : Int} {k : Nat} (h : k < (hi - lo).toNat) : (irng lo hi)[k]? = some (lo + (k : Int)) := by
  unfold irng
  rw [List.getElem?_map, List.getElem?_range h]; rfl
theorem ints_sorted (lo hi : Int) : (irng lo hi).Pairwise (· < ·) := by
  unfold irng
  rw [List.pairwise_map]
  exact (List.pairwise_lt_range).imp fun h => by omega
end G7

/-! running readings step by step: lemmas by head, loops by the slots that they change -/
namespace G7
open PySem

section
variable {e : En} {i j : Nat} {d x y : D} {Q : D → En → Prop} {QT : Bool → En → Prop} {QA : List D → En → Prop} {QO : Option Int → En → Prop} {QI : List D → En → Prop}
  {nx bk ct : En → Prop} {rt : D → En → Prop} {a b c : WE} {r : WA} {s t : WT} {f h : D → D → Option D} {f1 : D → Option D} {fl : List D → Option D} {S : FS} {g : WG} {lo hi : WO} {p q : WS} {it : WI}
theorem i_seq (k : p ⟨fun e1 => q ⟨nx, rt, bk, ct⟩ e1, rt, bk, ct⟩ e) : wSeq p q ⟨nx, rt, bk, ct⟩ e := k
theorem i_asg (k : a e fun x e1 => nx (e1.set i (some x))) : wAsg i a ⟨nx, rt, bk, ct⟩ e := k
theorem i_asgG (k : a e fun x e1 => ∃ e2, g x e1 = some e2 ∧ nx e2) : wAsgG g a ⟨nx, rt, bk, ct⟩ e := k
theorem i_asgP (k : a e fun d e1 => ∃ x y z : Int, d = .list [.int x, .int y, .int z] ∧ nx (e1.set i (some .none))) : wAsgP i a ⟨nx, rt, bk, ct⟩ e := k
theorem i_expr (k : a e fun _ e1 => nx e1) : wExpr a ⟨nx, rt, bk, ct⟩ e := k
theorem i_ret (k : a e rt) : wRet a ⟨nx, rt, bk, ct⟩ e := k
theorem i_retN (k : rt .none e) : wRetN ⟨nx, rt, bk, ct⟩ e := k
theorem i_if (k : t e fun c e1 => if c = true then p ⟨nx, rt, bk, ct⟩ e1 else q ⟨nx, rt, bk, ct⟩ e1) : wIf t p q ⟨nx, rt, bk, ct⟩ e := k
theorem i_nil (k : nx e) : wNil ⟨nx, rt, bk, ct⟩ e := k
theorem i_brk (k : bk e) : wBreak ⟨nx, rt, bk, ct⟩ e := k
theorem i_cnt (k : ct e) : wCont ⟨nx, rt, bk, ct⟩ e := k
theorem i_for (k : it e fun xs e1 => forL g p ⟨nx, rt, bk, ct⟩ xs e1) : wFor it g p ⟨nx, rt, bk, ct⟩ e := k
theorem i_var (h : e[i]? = some (some d)) (k : Q d e) : wVar i e Q := ⟨d, h, k⟩
theorem i_c (k : Q d e) : wC d e Q := k
theorem i_op1 (k : a e fun x e1 => ∃ z, f1 x = some z ∧ Q z e1) : wOp1 f1 a e Q := k
theorem i_op2 (k : a e fun x e1 => b e1 fun y e2 => ∃ z, f x y = some z ∧ Q z e2) : wOp2 f a b e Q := k
theorem i_anil (k : QA [] e) : waNil e QA := k
theorem i_acons (k : a e fun x e1 => r e1 fun xs e2 => QA (x :: xs) e2) : waCons a r e QA := k
theorem i_list (k : r e fun xs e1 => xs.length ≤ 1000000 ∧ Q (.list xs) e1) : wList r e Q := k
theorem i_tup (k : r e fun xs e1 => xs.length ≤ 1000000 ∧ Q (.tuple xs) e1) : wTup r e Q := k
theorem i_call (k : r e fun xs e1 => S xs fun r => Q r e1) : wCall S r e Q := k
theorem i_blt (k : r e fun xs e1 => ∃ z, fl xs = some z ∧ Q z e1) : wBlt fl r e Q := k
theorem i_on (k : QO none e) : woN e QO := k
theorem i_os (k : a e fun x e1 => ∃ i, x = .int i ∧ QO (some i) e1) : woS a e QO := k
theorem i_sl {h : D → Option Int → Option Int → Option D} (k : a e fun x e1 => lo e1 fun l e2 => hi e2 fun u e3 => ∃ z, h x l u = some z ∧ Q z e3) : wSl h a lo hi e Q := k
theorem i_val (k : a e fun x e1 => ∃ b, x = .bool b ∧ QT b e1) : tVal a e QT := k
theorem i_tand (k : s e fun b e1 => if b = true then t e1 QT else QT false e1) : tAnd s t e QT := k
theorem i_tor (k : s e fun b e1 => if b = true then QT true e1 else t e1 QT) : tOr s t e QT := k
theorem i_tnot (k : s e fun b e1 => QT (!b) e1) : tNot s e QT := k
theorem i_yes (k : QT true e) : G7.tYes e QT := k
theorem i_and (k : a e fun x e1 => ∃ c, x = .bool c ∧ if c = true then b e1 Q else Q (.bool false) e1) : wAnd a b e Q := k
theorem i_or (k : a e fun x e1 => ∃ c, x = .bool c ∧ if c = true then Q (.bool true) e1 else b e1 Q) : wOr a b e Q := k
theorem i_not (k : a e fun x e1 => ∃ c, x = .bool c ∧ Q (.bool (!c)) e1) : wNot a e Q := k
theorem i_ife (k : t e fun c e1 => if c = true then a e1 Q else b e1 Q) : wIfE t a b e Q := k
theorem i_chain (k : a e fun x e1 => b e1 fun y e2 => ∃ k, f x y = some (.bool k) ∧ if k = true then c e2 fun z e3 => ∃ r, h y z = some r ∧ Q r e3 else Q (.bool false) e2) : wChain f h a b c e Q := k
theorem i_iseq (k : a e fun x e1 => ∃ xs, seqD x = some xs ∧ QI xs e1) : wiSeq a e QI := k
theorem i_irg1 (k : a e fun x e1 => ∃ n : Int, x = .int n ∧ (-1000000 ≤ n ∧ n ≤ 1000000) ∧ QI ((irng 0 n).map .int) e1) : wiRg1 a e QI := by
  show a e _
  refine cast ?_ k
  congr 1
  funext x e1
  apply propext
  constructor
  · rintro ⟨n, h, h1, h2⟩; exact ⟨n, h, h1.1, h1.2, by rw [rangeD_ints]; exact h2⟩
  · rintro ⟨n, h, h1, h2, h3⟩; exact ⟨n, h, ⟨h1, h2⟩, by rw [rangeD_ints] at h3; exact h3⟩
theorem i_irg2 (k : a e fun x e1 => b e1 fun y e2 => ∃ m n : Int, x = .int m ∧ y = .int n ∧ (-1000000 ≤ m ∧ m ≤ 1000000 ∧ -1000000 ≤ n ∧ n ≤ 1000000) ∧ QI ((irng m n).map .int) e2) : wiRg2 a b e QI := by
  show a e _
  refine cast ?_ k
  congr 1
  funext x e1
  congr 1
  funext y e2
  apply propext
  constructor
  · rintro ⟨m, n, h, h', h1, h2⟩; exact ⟨m, n, h, h', h1.1, h1.2.1, h1.2.2.1, h1.2.2.2, by rw [rangeD_ints]; exact h2⟩
  · rintro ⟨m, n, h, h', h1, h2, h3, h4, h5⟩; exact ⟨m, n, h, h', ⟨h1, h2, h3, h4⟩, by rw [rangeD_ints] at h5; exact h5⟩
def zipK (QI : List D → En → Prop) (x y : D) (e : En) : Prop := ∃ xs ys, sameK x y = true ∧ seqD x = some xs ∧ seqD y = some ys ∧ QI (zipD xs ys) e
def enumK (QI : List D → En → Prop) (x : D) (e : En) : Prop := ∃ xs, seqD x = some xs ∧ QI (enumD xs) e
theorem i_izip (k : a e fun x e1 => b e1 fun y e2 => zipK QI x y e2) : wiZip2 a b e QI := k
theorem i_ienum (k : a e fun x e1 => enumK QI x e1) : wiEnum a e QI := k
theorem i_irev (k : a e fun x e1 => ∃ xs, seqD x = some xs ∧ QI xs.reverse e1) : wiRev a e QI := k
def mutK (i : Nat) (F : List D → List D → Option (D × List D)) (Q : D → En → Prop) (ys : List D) (e : En) : Prop := ∃ xs z xs', e[i]? = some (some (.list xs)) ∧ F xs ys = some (z, xs') ∧ Q z (e.set i (some (.list xs')))
theorem i_mut {F : List D → List D → Option (D × List D)} {l : List D} (h : e[i]? = some (some (.list l))) (k : r e fun ys e1 => mutK i F Q ys e1) : wMut i F r e Q := ⟨⟨_, h⟩, k⟩
theorem i_mut1 {F : List D → List D → Option (D × List D)} {l l' ys : List D} {z : D} (h : e[i]? = some (some (.list l))) (hf : F l ys = some (z, l')) (k : Q z (e.set i (some (.list l')))) : mutK i F Q ys e := ⟨_, _, _, h, hf, k⟩
theorem i_plix (h : e[i]? = some (some .none)) (k : ∀ x : Int, Q (.int x) e) : wPlIx i e Q := ⟨h, k⟩
theorem i_plset (k : a e fun d e1 => ∃ y : Int, d = .int y ∧ e1[i]? = some (some .none) ∧ nx e1) : wPlSet i a ⟨nx, rt, bk, ct⟩ e := k
theorem i_np (k : a e fun d e1 => ∃ x y z : Int, d = .list [.int x, .int y, .int z] ∧ Q .none e1) : wNp a e Q := k
theorem i_lstrg (k : it e fun xs e1 => Q (.list xs) e1) : wLstRg it e Q := k
theorem i_comp {vs : List Nat} (k : it e fun xs e1 => compL g vs t b (fun acc e2 => Q (.list acc) (back e1 e2 vs)) xs [] (wp e1 vs)) : wComp it g vs t b e Q := k
def setK (i : Nat) (nx : En → Prop) (y j : D) (e : En) : Prop := ∃ k xs m, j = .int k ∧ e[i]? = some (some (.list xs)) ∧ ixN xs.length k = some m ∧ nx (e.set i (some (.list (xs.set m y))))
def setK0 (i : Nat) (b : WE) (nx : En → Prop) (y : D) (e : En) : Prop := (∃ xs, e[i]? = some (some (.list xs))) ∧ b e fun j e2 => setK i nx y j e2
theorem i_setix (k : a e fun y e1 => setK0 i b nx y e1) : wSetIx i a b ⟨nx, rt, bk, ct⟩ e := k
theorem i_setix0 {l : List D} {y : D} (h : e[i]? = some (some (.list l))) (k : b e fun j e2 => setK i nx y j e2) : setK0 i b nx y e := ⟨⟨_, h⟩, k⟩
theorem i_setix1 {l : List D} {k : Int} {m : Nat} {y : D} (h : e[i]? = some (some (.list l))) (hm : ixN l.length k = some m) (q : nx (e.set i (some (.list (l.set m y))))) : setK i nx y (.int k) e := ⟨_, _, _, rfl, h, hm, q⟩
theorem i_setixm {α : Type} {f : α → D} {L : List α} {v : α} {k : Int} (h : e[i]? = some (some (.list (L.map f)))) (h0 : 0 ≤ k) (h1 : k < (L.length : Int)) (q : nx (e.set i (some (.list ((L.set k.toNat v).map f))))) : setK i nx (f v) (.int k) e := by
  refine ⟨k, _, k.toNat, rfl, h, ?_, by rw [List.map_set] at q; exact q⟩
  simp [ixN, h0, h1]
theorem i_asO {d : D} (h : e[i]? = some (some d)) (nt : NT d) (k : p ⟨nx, rt, bk, ct⟩ e) : wAsO i p ⟨nx, rt, bk, ct⟩ e := ⟨fun d' h' => by rw [h] at h'; cases h'; exact nt, k⟩
theorem i_asV {d : D} (h : e[i]? = some (some (.tuple [d]))) (k : p ⟨fun e => nx (toF i e), fun d e => rt d (toF i e), fun e => bk (toF i e), fun e => ct (toF i e)⟩ (e.set i (some d))) : wAsV i p ⟨nx, rt, bk, ct⟩ e := ⟨d, h, k⟩
theorem i_frz {d : D} (h : e[i]? = some (some d)) (nt : NT d) (k : p ⟨nx, rt, bk, ct⟩ (e.set i (some (.tuple [d])))) : wFrz i p ⟨nx, rt, bk, ct⟩ e := ⟨d, h, nt, k⟩
theorem i_par2 {a b : D} {R : D → D → Prop} (k : R a b) : ∃ x y, [a, b] = [x, y] ∧ R x y := ⟨a, b, rfl, k⟩
theorem i_T {A B : Prop} (k : A) : if true = true then A else B := k
theorem i_F {A B : Prop} (k : B) : if false = true then A else B := k
theorem i_dT {P A B : Prop} {_ : Decidable P} (h : P) (k : A) : if decide P = true then A else B := by rw [if_pos (by simpa using h)]; exact k
theorem i_dF {P A B : Prop} {_ : Decidable P} (h : ¬ P) (k : B) : if decide P = true then A else B := by rw [if_neg (by simpa using h)]; exact k
theorem i_ndT {P A B : Prop} {_ : Decidable P} (h : ¬ P) (k : A) : if (!decide P) = true then A else B := by rw [if_pos (by simpa using h)]; exact k
theorem i_ndF {P A B : Prop} {_ : Decidable P} (h : P) (k : B) : if (!decide P) = true then A else B := by rw [if_neg (by simpa using h)]; exact k
theorem i_bT {A B : Prop} {c : Bool} (h : c = true) (k : A) : if c = true then A else B := by rw [if_pos h]; exact k
theorem i_bF {A B : Prop} {c : Bool} (h : c = false) (k : B) : if c = true then A else B := by rw [if_neg (by simp [h])]; exact k
theorem i_ex {o : Option D} {z : D} {R : D → Prop} (h : o = some z) (k : R z) : ∃ z, o = some z ∧ R z := ⟨z, h, k⟩
theorem i_exb {z : Bool} {R : Bool → Prop} (k : R z) : ∃ b, PyData.bool z = .bool b ∧ R b := ⟨z, rfl, k⟩
theorem i_exi {z : Int} {R : Int → Prop} (k : R z) : ∃ b, PyData.int z = .int b ∧ R b := ⟨z, rfl, k⟩
theorem i_exk {o : Option D} {z : Bool} {R : Bool → Prop} (h : o = some (.bool z)) (k : R z) : ∃ b, o = some (.bool b) ∧ R b := ⟨z, h, k⟩
theorem i_exl {x : D} {z : List D} {R : List D → Prop} (h : seqD x = some z) (k : R z) : ∃ xs, seqD x = some xs ∧ R xs := ⟨z, h, k⟩
theorem i_rg1 {m : Int} {B : Int → Prop} {R : Int → Prop} (h : B m) (k : R m) : ∃ n : Int, PyData.int m = .int n ∧ B n ∧ R n := ⟨m, rfl, h, k⟩
theorem i_rg2 {m n : Int} {B : Int → Int → Prop} {R : Int → Int → Prop} (h : B m n) (k : R m n) : ∃ m' n' : Int, PyData.int m = .int m' ∧ PyData.int n = .int n' ∧ B m' n' ∧ R m' n' := ⟨m, n, rfl, rfl, h, k⟩
theorem i_len {xs : List D} {R : Prop} (h : xs.length ≤ 1000000) (k : R) : xs.length ≤ 1000000 ∧ R := ⟨h, k⟩
theorem i_g {o : Option En} {e2 : En} {R : En → Prop} (h : o = some e2) (k : R e2) : ∃ e2, o = some e2 ∧ R e2 := ⟨e2, h, k⟩
end
abbrev LI (l : List Int) : D := .list (l.map .int)
abbrev TI (l : List Int) : D := .tuple (l.map .int)
abbrev LP (l : List (Int × Int)) : D := .list (l.map dP)
abbrev TP (l : List (Int × Int)) : D := .tuple (l.map dP)
abbrev sI (n : Int) : Option D := some (.int n)
/-! more about operators -/
theorem powD_6 : powD (.int 10) (.int 6) = some (.int 1000000) := by simp [powD]
theorem powD_16 : powD (.int 10) (.int 16) = some (.int 10000000000000000) := by simp [powD]
theorem powD_18 : powD (.int 10) (.int 18) = some (.int 1000000000000000000) := by simp [powD]
theorem isTD_i {T : String} {i : Int} : isTD T (.int i) = some (.bool (isT T "int")) := rfl
theorem isTD_t (T : String) (xs : List D) : isTD T (.tuple xs) = some (.bool (isT T "tuple")) := rfl
theorem isTD_l (T : String) (xs : List D) : isTD T (.list xs) = some (.bool (isT T "list")) := rfl
theorem isTD_s (T : String) (x : Str) : isTD T (.str x) = some (.bool (isT T "str")) := rfl
theorem isTD_b (T : String) (b : Bool) : isTD T (.bool b) = some (.bool (isT T "bool")) := rfl
theorem isTD_n (T : String) : isTD T .none = some (.bool (isT T "NoneType")) := rfl
theorem isD_bb (a b : Bool) : isD (.bool a) (.bool b) = some (.bool (a == b)) := rfl
theorem isNotD_bb (a b : Bool) : isNotD (.bool a) (.bool b) = some (.bool (!(a == b))) := rfl
theorem isD_n' (u : Unit) : isD .none .none = some (.bool true) := rfl
theorem isD_lN (xs : List D) : isD (.list xs) .none = some (.bool false) := rfl
theorem isD_tN (xs : List D) : isD (.tuple xs) .none = some (.bool false) := rfl
theorem isNotD_lN (xs : List D) : isNotD (.list xs) .none = some (.bool true) := rfl
theorem isNotD_tN (xs : List D) : isNotD (.tuple xs) .none = some (.bool true) := rfl
theorem lenD_lm {α : Type} {f : α → D} {L : List α} : lenD [.list (L.map f)] = some (.int (L.length : Int)) := by simp [lenD]
theorem lenD_tm {α : Type} {f : α → D} {L : List α} : lenD [.tuple (L.map f)] = some (.int (L.length : Int)) := by simp [lenD]
theorem seqD_lm {α : Type} {f : α → D} {L : List α} : seqD (.list (L.map f)) = some (L.map f) := rfl
theorem seqD_tm {α : Type} {f : α → D} {L : List α} : seqD (.tuple (L.map f)) = some (L.map f) := rfl
theorem eqD_li (a b : List Int) : eqD (.list (a.map .int)) (.list (b.map .int)) = some (.bool (decide (a = b))) := by
  rw [eqD_lay (lay_lst (lay_ints a (k := 0))) (lay_lst (lay_ints b (k := 0))), eqv_lst eqv_ii]
theorem eqD_ti (a b : List Int) : eqD (.tuple (a.map .int)) (.tuple (b.map .int)) = some (.bool (decide (a = b))) := by
  rw [eqD_lay (lay_tup (lay_ints a (k := 0))) (lay_tup (lay_ints b (k := 0))), eqv_tup eqv_ii]
theorem neD_li (a b : List Int) : neD (.list (a.map .int)) (.list (b.map .int)) = some (.bool (!decide (a = b))) := by
  rw [neD_lay (lay_lst (lay_ints a (k := 0))) (lay_lst (lay_ints b (k := 0))), eqv_lst eqv_ii]
theorem neD_ti (a b : List Int) : neD (.tuple (a.map .int)) (.tuple (b.map .int)) = some (.bool (!decide (a = b))) := by
  rw [neD_lay (lay_tup (lay_ints a (k := 0))) (lay_tup (lay_ints b (k := 0))), eqv_tup eqv_ii]
theorem neD_l0 (a : List Int) : neD (.list (a.map .int)) (.list []) = some (.bool (!decide (a = []))) := neD_li a []
theorem eqD_l0 (a : List Int) : eqD (.list (a.map .int)) (.list []) = some (.bool (decide (a = []))) := eqD_li a []
theorem eqD_lp (a b : List (Int × Int)) : eqD (.list (a.map dP)) (.list (b.map dP)) = some (.bool (decide (a = b))) := by
  rw [eqD_lay (lay_lst (lay_map lay_dP a)) (lay_lst (lay_map lay_dP b)), eqv_lst eqv_dP]
theorem neD_lp (a b : List (Int × Int)) : neD (.list (a.map dP)) (.list (b.map dP)) = some (.bool (!decide (a = b))) := by
  rw [neD_lay (lay_lst (lay_map lay_dP a)) (lay_lst (lay_map lay_dP b)), eqv_lst eqv_dP]
theorem eqD_tp (a b : List (Int × Int)) : eqD (.tuple (a.map dP)) (.tuple (b.map dP)) = some (.bool (decide (a = b))) := by
  rw [eqD_lay (lay_tup (lay_map lay_dP a)) (lay_tup (lay_map lay_dP b)), eqv_tup eqv_dP]
theorem neD_tp (a b : List (Int × Int)) : neD (.tuple (a.map dP)) (.tuple (b.map dP)) = some (.bool (!decide (a = b))) := by
  rw [neD_lay (lay_tup (lay_map lay_dP a)) (lay_tup (lay_map lay_dP b)), eqv_tup eqv_dP]
theorem inD_li (x : Int) (xs : List Int) : inD (.int x) (.list (xs.map .int)) = some (.bool (decide (x ∈ xs))) := inD_l (k := 0) eqv_ii (fun i => lay_int i) x xs
theorem inD_ti (x : Int) (xs : List Int) : inD (.int x) (.tuple (xs.map .int)) = some (.bool (decide (x ∈ xs))) := inD_t (k := 0) eqv_ii (fun i => lay_int i) x xs
theorem notInD_li (x : Int) (xs : List Int) : notInD (.int x) (.list (xs.map .int)) = some (.bool (!decide (x ∈ xs))) := notInD_l (k := 0) eqv_ii (fun i => lay_int i) x xs
theorem notInD_ti (x : Int) (xs : List Int) : notInD (.int x) (.tuple (xs.map .int)) = some (.bool (!decide (x ∈ xs))) := notInD_t (k := 0) eqv_ii (fun i => lay_int i) x xs
theorem inD_lp (x : Int × Int) (xs : List (Int × Int)) : inD (dP x) (.list (xs.map dP)) = some (.bool (decide (x ∈ xs))) := inD_l eqv_dP lay_dP x xs
theorem inD_tp (x : Int × Int) (xs : List (Int × Int)) : inD (dP x) (.tuple (xs.map dP)) = some (.bool (decide (x ∈ xs))) := inD_t eqv_dP lay_dP x xs
theorem notInD_lp (x : Int × Int) (xs : List (Int × Int)) : notInD (dP x) (.list (xs.map dP)) = some (.bool (!decide (x ∈ xs))) := notInD_l eqv_dP lay_dP x xs
theorem notInD_tp (x : Int × Int) (xs : List (Int × Int)) : notInD (dP x) (.tuple (xs.map dP)) = some (.bool (!decide (x ∈ xs))) := notInD_t eqv_dP lay_dP x xs
theorem inD_lp' (a b : Int) (xs : List (Int × Int)) : inD (.tuple [.int a, .int b]) (.list (xs.map dP)) = some (.bool (decide ((a, b) ∈ xs))) := inD_lp (a, b) xs
theorem inD_tp' (a b : Int) (xs : List (Int × Int)) : inD (.tuple [.int a, .int b]) (.tuple (xs.map dP)) = some (.bool (decide ((a, b) ∈ xs))) := inD_tp (a, b) xs
theorem notInD_lp' (a b : Int) (xs : List (Int × Int)) : notInD (.tuple [.int a, .int b]) (.list (xs.map dP)) = some (.bool (!decide ((a, b) ∈ xs))) := notInD_lp (a, b) xs
theorem notInD_tp' (a b : Int) (xs : List (Int × Int)) : notInD (.tuple [.int a, .int b]) (.tuple (xs.map dP)) = some (.bool (!decide ((a, b) ∈ xs))) := notInD_tp (a, b) xs
theorem addD_lm {α : Type} {f : α → D} {a b : List α} (h : a.length + b.length ≤ 1000000) : addD (.list (a.map f)) (.list (b.map f)) = some (.list ((a ++ b).map f)) := by
  rw [List.map_append]; exact addD_l (by simpa using h)
theorem addD_tm {α : Type} {f : α → D} {a b : List α} (h : a.length + b.length ≤ 1000000) : addD (.tuple (a.map f)) (.tuple (b.map f)) = some (.tuple ((a ++ b).map f)) := by
  rw [List.map_append]; exact addD_t (by simpa using h)
theorem addD_tm1 {α : Type} {f : α → D} {a : List α} {x : α} (h : a.length < 1000000) : addD (.tuple (a.map f)) (.tuple [f x]) = some (.tuple ((a ++ [x]).map f)) := addD_tm (b := [x]) (by simp; omega)
theorem addD_lm1 {α : Type} {f : α → D} {a : List α} {x : α} (h : a.length < 1000000) : addD (.list (a.map f)) (.list [f x]) = some (.list ((a ++ [x]).map f)) := addD_lm (b := [x]) (by simp; omega)
theorem addLD_lm {α : Type} {f : α → D} {a b : List α} (h : a.length + b.length ≤ 1000000) : addLD (.list (a.map f)) (.list (b.map f)) = some (.list ((a ++ b).map f)) := by
  rw [List.map_append]; exact addLD_ok (by simpa using h)
theorem addD_1m {α : Type} {f : α → D} {x : α} {b : List α} (h : b.length ≤ 1000) : addD (.list [f x]) (.list (b.map f)) = some (.list ((x :: b).map f)) := addD_lm (a := [x]) (by simp; omega)
theorem repLD_0 {x n : Int} (h0 : -1000 ≤ n) (h1 : n ≤ 1000) : repLD (.list [.int x]) (.int n) = some (LI (List.replicate n.toNat x)) := by
  simp only [repLD, List.length_cons, List.length_nil, h0, h1, LI, List.map_replicate]
  rw [if_pos (by simp)]
  congr 2
  induction n.toNat with
  | zero => rfl
  | succ k ih => rw [List.replicate_succ, List.replicate_succ, List.flatten_cons, ih]; rfl
theorem appendF_m {α : Type} {f : α → D} {a : List α} {x : α} (h : a.length < 1000000) : appendF (a.map f) [f x] = some (.none, (a ++ [x]).map f) := by
  rw [appendF_ok (by simpa using h)]; simp
theorem extendF_m {α : Type} {f : α → D} {a b : List α} (h : a.length + b.length ≤ 1000000) : extendF (a.map f) [.list (b.map f)] = some (.none, (a ++ b).map f) := by
  rw [extendF_ok (by simpa using h)]; simp
theorem cut_to' {α : Type} {f : α → D} {L : List α} {c : Int} (h : 0 ≤ c) : cut (L.map f) none (some c) = (L.take c.toNat).map f := by
  simp only [cut, HT.sIx, Int.not_lt.mpr h]
  simp
theorem cut_from' {α : Type} {f : α → D} {L : List α} {c : Int} (h : 0 ≤ c) : cut (L.map f) (some c) none = (L.drop c.toNat).map f := by
  simp only [cut, HT.sIx, Int.not_lt.mpr h, if_false, List.length_map, ← List.map_drop]
  rw [List.take_of_length_le (by simp)]
  by_cases e : c.toNat ≤ L.length
  · rw [Nat.min_eq_left e]
  · rw [Nat.min_eq_right (by omega), List.drop_eq_nil_of_le (Nat.le_refl _), List.drop_eq_nil_of_le (by omega)]
theorem slT_tom {α : Type} {f : α → D} {L : List α} {c : Int} (h : 0 ≤ c) : slD (.tuple (L.map f)) none (some c) = some (.tuple ((L.take c.toNat).map f)) := by simp only [slD, cut_to' h]
theorem slT_frm {α : Type} {f : α → D} {L : List α} {c : Int} (h : 0 ≤ c) : slD (.tuple (L.map f)) (some c) none = some (.tuple ((L.drop c.toNat).map f)) := by simp only [slD, cut_from' h]
theorem slL_tom {α : Type} {f : α → D} {L : List α} {c : Int} (h : 0 ≤ c) : slD (.list (L.map f)) none (some c) = some (.list ((L.take c.toNat).map f)) := by simp only [slD, cut_to' h]
theorem slL_frm {α : Type} {f : α → D} {L : List α} {c : Int} (h : 0 ≤ c) : slD (.list (L.map f)) (some c) none = some (.list ((L.drop c.toNat).map f)) := by simp only [slD, cut_from' h]
/-- one part put otherwise -/
theorem put_eq {α : Type} (l : List α) (k : Int) (x : α) (h0 : 0 ≤ k) (h : k < (l.length : Int)) : l.take k.toNat ++ [x] ++ l.drop (k + 1).toNat = l.set k.toNat x := by
  rw [show (k + 1).toNat = k.toNat + 1 by omega, List.set_eq_take_append_cons_drop, if_pos (by omega)]; simp
theorem addLD_l1 {α : Type} {f : α → D} {L : List α} {v : α} (h : L.length < 1000000) : addLD (.list (L.map f)) (.list [f v]) = some (.list ((L ++ [v]).map f)) := by
  rw [addLD_ok (by rw [List.length_map, List.length_singleton]; omega)]; simp
/-- reading a row at a place -/
theorem ixN_int {n : Nat} {i : Int} (h0 : 0 ≤ i) (h1 : i < n) : ixN n i = some i.toNat := by simp [ixN, h0, h1]
theorem ixD_lm {α : Type} [Inhabited α] {f : α → D} {L : List α} {i : Int} (h0 : 0 ≤ i) (h1 : i < (L.length : Int)) : ixD (.list (L.map f)) (.int i) = some (f L[i.toNat]!) := by
  have h : i.toNat < L.length := by omega
  simp [ixD, ixN_int h0 (n := L.length) h1, h, getElem!_pos]
theorem ixD_tm {α : Type} [Inhabited α] {f : α → D} {L : List α} {i : Int} (h0 : 0 ≤ i) (h1 : i < (L.length : Int)) : ixD (.tuple (L.map f)) (.int i) = some (f L[i.toNat]!) := by
  have h : i.toNat < L.length := by omega
  simp [ixD, ixN_int h0 (n := L.length) h1, h, getElem!_pos]
theorem ixD_l0m {α : Type} {f : α → D} {x : α} {xs : List α} : ixD (.list ((x :: xs).map f)) (.int 0) = some (f x) := ixD_l0 _ _
theorem ixD_t0m {α : Type} {f : α → D} {x : α} {xs : List α} : ixD (.tuple ((x :: xs).map f)) (.int 0) = some (f x) := ixD_t0 _ _
theorem okD_s {a : Str} (h : PyData.canLay0 (.str a) = true) : okD (.str a) = true := by simp [okD, SeqAt.shaped, h, PyData.depth]
theorem eqD_s {a b : Str} (ha : PyData.canLay0 (.str a) = true) (hb : PyData.canLay0 (.str b) = true) : eqD (.str a) (.str b) = some (.bool (a == b)) := by
  simp [eqD, okD_s ha, okD_s hb, PyData.eqv]
theorem neD_s {a b : Str} (ha : PyData.canLay0 (.str a) = true) (hb : PyData.canLay0 (.str b) = true) : neD (.str a) (.str b) = some (.bool (!(a == b))) := by
  simp [neD, okD_s ha, okD_s hb, PyData.eqv]
theorem eqD_sT {a : Str} (ha : PyData.canLay0 (.str a) = true := by decide +kernel) : eqD (.str a) (.str a) = some (.bool true) := by rw [eqD_s ha ha]; simp
theorem eqD_sF {a b : Str} (h : (PyData.canLay0 (.str a) && PyData.canLay0 (.str b) && !(a == b)) = true := by decide +kernel) : eqD (.str a) (.str b) = some (.bool false) := by
  simp only [Bool.and_eq_true, Bool.not_eq_true'] at h
  rw [eqD_s h.1.1 h.1.2, h.2]
theorem neD_sT {a : Str} (ha : PyData.canLay0 (.str a) = true := by decide +kernel) : neD (.str a) (.str a) = some (.bool false) := by rw [neD_s ha ha]; simp
theorem neD_sF {a b : Str} (h : (PyData.canLay0 (.str a) && PyData.canLay0 (.str b) && !(a == b)) = true := by decide +kernel) : neD (.str a) (.str b) = some (.bool true) := by
  simp only [Bool.and_eq_true, Bool.not_eq_true'] at h
  rw [neD_s h.1.1 h.1.2, h.2]; rfl
theorem dP_0 (p : Int × Int) : ixD (dP p) (.int 0) = some (.int p.1) := rfl
theorem dP_1 (p : Int × Int) : ixD (dP p) (.int 1) = some (.int p.2) := rfl
theorem gT2 {i j : Nat} {p : Int × Int} {e : En} : gT [gN i, gN j] (dP p) e = some ((e.set i (some (.int p.1))).set j (some (.int p.2))) := rfl

abbrev gI (l : List Int) (i : Int) : Int := l[i.toNat]!
theorem gI_mem {l : List Int} {k : Int} (h0 : 0 ≤ k) (h1 : k < (l.length : Int)) : gI l k ∈ l := by
  unfold gI
  rw [getElem!_pos l k.toNat (by omega)]
  exact List.getElem_mem _
theorem gI_set {l : List Int} {i j v : Int} (h0 : 0 ≤ i) (h1 : i < (l.length : Int)) (h2 : 0 ≤ j) : gI (l.set i.toNat v) j = if j = i then v else gI l j := by
  unfold gI
  rw [List.getElem!_eq_getElem?_getD, List.getElem!_eq_getElem?_getD]
  by_cases c : j = i
  · subst c
    rw [if_pos rfl, List.getElem?_set_self (by omega)]; rfl
  · rw [if_neg c, List.getElem?_set_ne (by omega)]
theorem gI_map {l : List Int} {f : Int → Int} {j : Int} (h0 : 0 ≤ j) (h1 : j < (l.length : Int)) : gI (l.map f) j = f (gI l j) := by
  unfold gI
  rw [List.getElem!_eq_getElem?_getD, List.getElem!_eq_getElem?_getD, List.getElem?_map, List.getElem?_eq_getElem (by omega)]; rfl
theorem gI_irng {n j : Int} (h0 : 0 ≤ j) (h1 : j < n) : gI (irng 0 n) j = j := by
  unfold gI
  rw [List.getElem!_eq_getElem?_getD, ints_get (by omega)]
  simp only [Option.getD_some]
  omega
/-- what holds of all that is walked -/
def Fact {α : Type} (L : List α) (P : α → Prop) : Prop := ∀ x ∈ L, P x
theorem Fact.use {α : Type} {L : List α} {P : α → Prop} (h : Fact L P) {x : α} (hx : x ∈ L) : P x := h x hx
theorem i_idxL {f : D → D → Option D} {a b : WE} {e : En} {Q : D → En → Prop} (k : a e fun x e1 => ((∃ xs, x = .list xs) ∨ ∃ xs, x = xtD xs) ∧ b e1 fun y e2 => ∃ z, f x y = some z ∧ Q z e2) : wIdx f a b e Q := k
theorem i_idl {xs : List D} {R : Prop} (k : R) : ((∃ ys, PyData.list xs = .list ys) ∨ ∃ ys, PyData.list xs = xtD ys) ∧ R := ⟨.inl ⟨_, rfl⟩, k⟩
theorem i_idx {xs : List D} {R : Prop} (k : R) : ((∃ ys, xtD xs = .list ys) ∨ ∃ ys, xtD xs = xtD ys) ∧ R := ⟨.inr ⟨_, rfl⟩, k⟩
theorem idxD_li {l : List Int} {k : Int} (h : k ∈ l) : idxD (l.map .int) (.int k) = some (.int (l.idxOf k : Int)) := by
  unfold idxD
  rw [List.findIdx?_map]
  have e : ((fun z => PyData.eqv z (PyData.int k)) ∘ PyData.int) = fun z => z == k := by
    funext z
    simp only [Function.comp, eqv_ii]
    exact Bool.beq_eq_decide_eq z k ▸ rfl
  rw [e, List.findIdx?_eq_some_of_exists ⟨k, h, by simp⟩]
  rfl
theorem indexD_li {l : List Int} {k : Int} (h : k ∈ l) : indexD (LI l) (.int k) = some (.int (l.idxOf k : Int)) := by
  simp only [indexD, lay_ok (lay_lst (lay_ints l (k := 0))), lay_ok (lay_int k (k := 0)), and_self, if_true]
  exact idxD_li h
theorem indexD_xi {l : List Int} {k : Int} (h : k ∈ l) : indexD (xtD (l.map .int)) (.int k) = some (.int (l.idxOf k : Int)) := by
  simp only [indexD, xtD, lay_ok (lay_tup (lay_ints l (k := 0))), lay_ok (lay_int k (k := 0)), and_self, if_true]
  exact idxD_li h
theorem removeF_i {l : List Int} {k : Int} (h : k ∈ l) : removeF (l.map .int) [.int k] = some (.none, (l.erase k).map .int) := by simp [removeF, h]
theorem tupRevD_m {α : Type} {f : α → D} {l : List α} : tupRevD (.list (l.map f)) = some (.tuple (l.reverse.map f)) := by simp [tupRevD, List.map_reverse]
theorem map_eraseI {α β : Type} (f : α → β) : ∀ (l : List α) (k : Nat), (l.map f).eraseIdx k = (l.eraseIdx k).map f
  | [], k => by simp
  | _ :: _, 0 => by simp
  | a :: l, k + 1 => by simp [map_eraseI f l k]
theorem popAtF_m {α : Type} [Inhabited α] {f : α → D} {L : List α} {i : Int} (h0 : 0 ≤ i) (h1 : i < (L.length : Int)) : popAtF (L.map f) [.int i] = some (f L[i.toNat]!, (L.eraseIdx i.toNat).map f) := by
  have h : i.toNat < L.length := by omega
  have := popAtF_ok (xs := L.map f) (y := f L[i.toNat]!) (i := i.toNat) (by rw [List.getElem?_map, List.getElem?_eq_getElem h, getElem!_pos L i.toNat h]; rfl)
  rw [Int.toNat_of_nonneg h0] at this
  rw [this, map_eraseI]
/-! two rows side by side, a row with its places -/
theorem zipD_map {α β : Type} (f : α → D) (g : β → D) : ∀ (L : List α) (M : List β), zipD (L.map f) (M.map g) = (L.zip M).map fun z => .tuple [f z.1, g z.2]
  | [], _ => by simp [zipD]
  | _ :: _, [] => by simp [zipD]
  | x :: L, y :: M => by
    have := zipD_map f g L M
    unfold zipD at this ⊢
    simp [this]
theorem i_zipT {α β : Type} {f : α → D} {g : β → D} {L : List α} {M : List β} {QI : List D → En → Prop} {e : En} (k : QI ((L.zip M).map fun z => .tuple [f z.1, g z.2]) e) : zipK QI (.tuple (L.map f)) (.tuple (M.map g)) e := ⟨_, _, rfl, rfl, rfl, by rw [zipD_map]; exact k⟩
theorem i_zipL {α β : Type} {f : α → D} {g : β → D} {L : List α} {M : List β} {QI : List D → En → Prop} {e : En} (k : QI ((L.zip M).map fun z => .tuple [f z.1, g z.2]) e) : zipK QI (.list (L.map f)) (.list (M.map g)) e := ⟨_, _, rfl, rfl, rfl, by rw [zipD_map]; exact k⟩
abbrev enumL {α : Type} (L : List α) : List (Int × α) := (irng 0 L.length).zip L
theorem enumD_map {α : Type} (f : α → D) (L : List α) : enumD (L.map f) = (enumL L).map fun z => .tuple [.int z.1, f z.2] := by
  unfold enumD enumL
  rw [List.length_map, rangeD_ints, zipD_map]
theorem i_enum {α : Type} {f : α → D} {L : List α} {x : D} {QI : List D → En → Prop} {e : En} (h : seqD x = some (L.map f)) (k : QI ((enumL L).map fun z => .tuple [.int z.1, f z.2]) e) : enumK QI x e := ⟨_, h, by rw [enumD_map]; exact k⟩
theorem mem_enumL {α : Type} [Inhabited α] {L : List α} {z : Int × α} (h : z ∈ enumL L) : 0 ≤ z.1 ∧ z.1 < (L.length : Int) ∧ z.2 = L[z.1.toNat]! ∧ z.2 ∈ L := by
  unfold enumL at h
  obtain ⟨i, hi, e⟩ := List.mem_iff_getElem.mp h
  rw [List.getElem_zip] at e
  rw [List.length_zip, ints_len] at hi
  subst e
  have e1 : (irng 0 (L.length : Int))[i]'(by rw [ints_len]; omega) = (i : Int) := by simp [irng]
  simp only [e1, Int.toNat_natCast]
  exact ⟨by omega, by omega, by rw [getElem!_pos L i (by omega)], List.getElem_mem _⟩
/-! loops by slots -/
def upd : En → List Nat → List (Option D) → En
  | e, i :: is, v :: vs => upd (e.set i v) is vs
  | e, _, _ => e
abbrev J1 (vs : List (Option D)) : Prop := ∃ a0, vs = [a0]
abbrev J2 (vs : List (Option D)) : Prop := ∃ a0 a1, vs = [a0, a1]
abbrev J3 (vs : List (Option D)) : Prop := ∃ a0 a1 a2, vs = [a0, a1, a2]
abbrev J4 (vs : List (Option D)) : Prop := ∃ a0 a1 a2 a3, vs = [a0, a1, a2, a3]
abbrev J5 (vs : List (Option D)) : Prop := ∃ a0 a1 a2 a3 a4, vs = [a0, a1, a2, a3, a4]
abbrev J6 (vs : List (Option D)) : Prop := ∃ a0 a1 a2 a3 a4 a5, vs = [a0, a1, a2, a3, a4, a5]
abbrev J7 (vs : List (Option D)) : Prop := ∃ a0 a1 a2 a3 a4 a5 a6, vs = [a0, a1, a2, a3, a4, a5, a6]
abbrev J8 (vs : List (Option D)) : Prop := ∃ a0 a1 a2 a3 a4 a5 a6 a7, vs = [a0, a1, a2, a3, a4, a5, a6, a7]
abbrev J9 (vs : List (Option D)) : Prop := ∃ a0 a1 a2 a3 a4 a5 a6 a7 a8, vs = [a0, a1, a2, a3, a4, a5, a6, a7, a8]
abbrev J10 (vs : List (Option D)) : Prop := ∃ a0 a1 a2 a3 a4 a5 a6 a7 a8 a9, vs = [a0, a1, a2, a3, a4, a5, a6, a7, a8, a9]
abbrev J11 (vs : List (Option D)) : Prop := ∃ a0 a1 a2 a3 a4 a5 a6 a7 a8 a9 a10, vs = [a0, a1, a2, a3, a4, a5, a6, a7, a8, a9, a10]
abbrev J12 (vs : List (Option D)) : Prop := ∃ a0 a1 a2 a3 a4 a5 a6 a7 a8 a9 a10 a11, vs = [a0, a1, a2, a3, a4, a5, a6, a7, a8, a9, a10, a11]
abbrev J13 (vs : List (Option D)) : Prop := ∃ a0 a1 a2 a3 a4 a5 a6 a7 a8 a9 a10 a11 a12, vs = [a0, a1, a2, a3, a4, a5, a6, a7, a8, a9, a10, a11, a12]
abbrev J14 (vs : List (Option D)) : Prop := ∃ a0 a1 a2 a3 a4 a5 a6 a7 a8 a9 a10 a11 a12 a13, vs = [a0, a1, a2, a3, a4, a5, a6, a7, a8, a9, a10, a11, a12, a13]
abbrev J15 (vs : List (Option D)) : Prop := ∃ a0 a1 a2 a3 a4 a5 a6 a7 a8 a9 a10 a11 a12 a13 a14, vs = [a0, a1, a2, a3, a4, a5, a6, a7, a8, a9, a10, a11, a12, a13, a14]
section
variable {α : Type} {enc : α → D} {L : List α} {g : WG} {b p q : WS} {t : WT} {nx bk ct : En → Prop} {rt : D → En → Prop} {e : En}
theorem for_st (sl : List Nat) (Inv : List α → List (Option D) → Prop) (vs0 : List (Option D)) (he : upd e sl vs0 = e) (h0 : Inv [] vs0)
    (hs : ∀ pre x post vs, L = pre ++ x :: post → Inv pre vs → ∀ R : En → Prop, (∀ vs', Inv (pre ++ [x]) vs' → R (upd e sl vs')) → ∃ e1, g (enc x) (upd e sl vs) = some e1 ∧ b ⟨R, rt, nx, R⟩ e1)
    (hend : ∀ vs, Inv L vs → nx (upd e sl vs)) : forL g b ⟨nx, rt, bk, ct⟩ (L.map enc) e := by
  have key : ∀ (post pre : List α) (vs : List (Option D)), L = pre ++ post → Inv pre vs → forL g b ⟨nx, rt, bk, ct⟩ (post.map enc) (upd e sl vs) := by
    intro post
    induction post with
    | nil =>
      intro pre vs hL hI
      rw [List.append_nil] at hL
      subst hL
      exact hend vs hI
    | cons x post ih =>
      intro pre vs hL hI
      exact hs pre x post vs hL hI _ fun vs' hI' => ih (pre ++ [x]) vs' (by rw [hL]; simp) hI'
  have := key L [] vs0 rfl h0
  rwa [he] at this
/-- with a way out ahead of the end -/
theorem while_st (sl : List Nat) (Inv : List (Option D) → Prop) (μ : List (Option D) → Nat) (vs0 : List (Option D)) (he : upd e sl vs0 = e) (h0 : Inv vs0)
    (hs : ∀ vs, Inv vs → ∀ R : En → Prop, (∀ vs', Inv vs' → μ vs' < μ vs → R (upd e sl vs')) → t (upd e sl vs) fun c e1 => if c = true then b ⟨R, rt, nx, R⟩ e1 else nx e1) : wWhile t b ⟨nx, rt, bk, ct⟩ e := by
  have key : ∀ n vs, Inv vs → μ vs < n → whileN t b ⟨nx, rt, bk, ct⟩ n (upd e sl vs) := by
    intro n
    induction n with
    | zero => intro vs _ h; exact absurd h (Nat.not_lt_zero _)
    | succ n ih => intro vs hI hm; exact hs vs hI _ fun vs' hI' hm' => ih vs' hI' (by omega)
  have := key (μ vs0 + 1) vs0 h0 (Nat.lt_succ_self _)
  rw [he] at this
  exact ⟨_, this⟩
theorem while_cut (sl : List Nat) (Inv : List (Option D) → Prop) (μ : List (Option D) → Nat) (vs0 : List (Option D)) (he : upd e sl vs0 = e) (h0 : Inv vs0)
    (hs : ∀ vs, Inv vs → ∀ R X : En → Prop, (∀ vs', Inv vs' → μ vs' < μ vs → R (upd e sl vs')) → (∀ vs', Inv vs' → X (upd e sl vs')) → t (upd e sl vs) fun c e1 => if c = true then b ⟨R, rt, X, R⟩ e1 else X e1)
    (hx : ∀ vs, Inv vs → nx (upd e sl vs)) : wWhile t b ⟨nx, rt, bk, ct⟩ e :=
  while_st sl Inv μ vs0 he h0 fun vs hv R hR => hs vs hv R nx hR hx
theorem st_cut (sl : List Nat) (P : List (Option D) → Prop) (h : ∀ X : En → Prop, (∀ vs, P vs → X (upd e sl vs)) → p ⟨X, rt, bk, ct⟩ e) (k : ∀ vs, P vs → nx (upd e sl vs)) : p ⟨nx, rt, bk, ct⟩ e := h nx k
theorem cut_st (sl : List Nat) (P : List (Option D) → Prop) (h : ∀ R : En → Prop, (∀ vs, P vs → R (upd e sl vs)) → p ⟨R, rt, bk, ct⟩ e) (k : ∀ vs, P vs → q ⟨nx, rt, bk, ct⟩ (upd e sl vs)) : wSeq p q ⟨nx, rt, bk, ct⟩ e :=
  h _ k
end
section
variable {α β : Type} {enc : α → D} {en2 : β → D} {L : List α} {g : WG} {vs : List Nat} {t : WT} {b : WE} {Q : List D → En → Prop} {e : En}
theorem comp_el {α : Type} {h : α → D} {xs : List α} (p : α → Bool) (f : α → β)
    (hs : ∀ x ∈ xs, ∃ e1, g (h x) e = some e1 ∧ (∀ R : Bool → En → Prop, R (p x) e1 → t e1 R) ∧ (p x = true → ∀ R : D → En → Prop, R (en2 (f x)) e1 → b e1 R) ∧ wp e1 vs = e) (hq : Q (((xs.filter p).map f).map en2) e) : compL g vs t b Q (xs.map h) [] e :=
  compL_map (h := h) (xs := xs) (acc := []) p (fun x => en2 (f x)) hs (by rw [List.nil_append]; rw [List.map_map] at hq; exact hq)
theorem comp_fil {α : Type} {h : α → D} {xs : List α} (p : α → Bool)
    (hs : ∀ x ∈ xs, ∃ e1, g (h x) e = some e1 ∧ (∀ R : Bool → En → Prop, R (p x) e1 → t e1 R) ∧ (p x = true → ∀ R : D → En → Prop, R (h x) e1 → b e1 R) ∧ wp e1 vs = e) (hq : Q ((xs.filter p).map h) e) : compL g vs t b Q (xs.map h) [] e :=
  compL_map (h := h) (xs := xs) (acc := []) p h hs (by rw [List.nil_append]; exact hq)
theorem comp_all {α : Type} {h : α → D} {xs : List α} (f : α → β)
    (hs : ∀ x ∈ xs, ∃ e1, g (h x) e = some e1 ∧ (∀ R : D → En → Prop, R (en2 (f x)) e1 → b e1 R) ∧ wp e1 vs = e) (hq : Q ((xs.map f).map en2) e) : compL g vs G7.tYes b Q (xs.map h) [] e := by
  refine comp_el (en2 := en2) (fun _ => true) f (fun x hx => ?_) (by rw [show xs.filter (fun _ => true) = xs from List.filter_eq_self.mpr fun _ _ => rfl]; exact hq)
  obtain ⟨e1, h1, h2, h3⟩ := hs x hx
  exact ⟨e1, h1, fun R h => h, fun _ => h2, h3⟩
theorem comp_allD {xs : List D} (f : D → β)
    (hs : ∀ x ∈ xs, ∃ e1, g x e = some e1 ∧ (∀ R : D → En → Prop, R (en2 (f x)) e1 → b e1 R) ∧ wp e1 vs = e) (hq : Q ((xs.map f).map en2) e) : compL g vs G7.tYes b Q xs [] e := by
  have := comp_all (h := id) (xs := xs) f hs hq
  rwa [List.map_id] at this
end
end G7

/-! webs as data; draws, webs drawn, places near: shared by many laws -/
namespace G7
namespace Lib
open PySem
/-- _law_next(pool, base): slots 0 pool:p, 1 base:r, 2 digit:v, 3 mixed:v, 4 stir:v; modes ['pl', 'rd']; answer fz -/
def wb_l_next : WS :=
  (wSeq (wIf (tVal (wOp2 gtD (wPlIx 0) (wC (.int 0)))) (wSeq (wAsg 2 (wOp2 modD (wPlIx 0) (wVar 1)))
    (wSeq (wPlSet 0 (wOp2 fdivD (wPlIx 0) (wVar 1)))
    (wRet (wVar 2)))) wNil)
    (wSeq (wPlSet 0 (wOp2 addD (wPlIx 0) (wC (.int 1))))
    (wSeq (wAsg 3 (wOp2 modD (wOp2 addD (wPlIx 0) (wOp2 mulID (wC (.int 7919)) (wPlIx 0))) (wC (.int 1000000007))))
    (wSeq (wAsg 4 (wOp2 modD (wOp2 mulID (wOp2 addD (wVar 3) (wC (.int 11))) (wOp2 addD (wVar 3) (wC (.int 48271)))) (wC (.int 998244353))))
    (wRet (wOp2 modD (wOp2 fdivD (wOp2 modD (wOp2 mulID (wVar 4) (wVar 4)) (wC (.int 2147483647))) (wC (.int 8))) (wVar 1)))))))
/-- _law_web(pool, most): slots 0 pool:p, 1 most:r, 2 many:v, 3 way:v, 4 lack:v, 5 cut:v, 6 roots:v, 7 some:o, 8 a:v, 9 b:v, 10 chance:v, 11 lucky:v, 12 place:v; modes ['pl', 'rd']; answer fz -/
def wb_l_web (S_l_next : FS) : WS :=
  (wSeq (wAsg 2 (wOp2 addD (wC (.int 1)) (wCall S_l_next (waCons (wVar 0) (waCons (wVar 1) waNil)))))
    (wSeq (wAsg 3 (wCall S_l_next (waCons (wVar 0) (waCons (wC (.int 7)) waNil))))
    (wSeq (wAsg 4 (wOp2 addD (wC (.int 2)) (wCall S_l_next (waCons (wVar 0) (waCons (wC (.int 4)) waNil)))))
    (wSeq (wAsg 5 (wCall S_l_next (waCons (wVar 0) (waCons (wVar 2) waNil))))
    (wSeq (wAsg 6 (wComp (wiRg1 (wVar 2)) (gN 12) [12] G7.tYes (wCall S_l_next (waCons (wVar 0) (waCons (wBlt max2D (waCons (wC (.int 1)) (waCons (wVar 12) waNil))) waNil)))))
    (wSeq (wAsg 7 (wList waNil))
    (wSeq (wFor (wiRg1 (wVar 2)) (gN 8) (wFor (wiRg2 (wOp2 addD (wVar 8) (wC (.int 1))) (wVar 2)) (gN 9) (wSeq (wAsg 10 (wCall S_l_next (waCons (wVar 0) (waCons (wC (.int 6)) waNil))))
    (wSeq (wAsg 11 (wList (waCons (wOr (wOp2 eqD (wOp2 addD (wVar 8) (wC (.int 1))) (wVar 9)) (wAnd (wOp2 eqD (wVar 8) (wC (.int 0))) (wOp2 eqD (wOp2 addD (wVar 9) (wC (.int 1))) (wVar 2)))) (waCons (wOp2 ltD (wVar 10) (wOp2 addD (wVar 4) (wC (.int 3)))) (waCons (wOp2 eqD (wVar 10) (wC (.int 0))) (waCons (wOp2 eqD (wOp2 ixD (wVar 6) (wVar 9)) (wVar 8)) waNil))))))
    (wSeq (wAsg 11 (wOp2 addD (wVar 11) (wList (waCons (wAnd (wOp2 eqD (wOp2 ltD (wVar 8) (wVar 5)) (wOp2 ltD (wVar 9) (wVar 5))) (wOp2 ltD (wVar 10) (wC (.int 4)))) (waCons (wOp2 ltD (wVar 10) (wVar 4)) (waCons (wOr (wOp2 ltD (wVar 10) (wC (.int 3))) (wOp2 eqD (wOp2 ixD (wVar 6) (wVar 9)) (wVar 8))) waNil))))))
    (wIf (tAnd (tVal (wOp2 ixD (wVar 11) (wVar 3))) (tVal (wOp2 ltD (wBlt lenD (waCons (wVar 7) waNil)) (wC (.int 20))))) (wExpr (wMut 7 appendF (waCons (wTup (waCons (wVar 8) (waCons (wVar 9) waNil))) waNil))) wNil))))))
    (wRet (wTup (waCons (wVar 2) (waCons (wBlt tupD (waCons (wVar 7) waNil)) waNil)))))))))))
/-- near(web, place): slots 0 web:r, 1 place:r, 2 a:v, 3 b:v; modes ['rd', 'rd']; answer fz -/
def wb_near : WS :=
  (wRet (wBlt tupD (waCons (wBlt sortedAD (waCons (wComp (wiSeq (wOp2 ixD (wVar 0) (wC (.int 1)))) (gT [(gN 2), (gN 3)]) [2, 3] (tVal (wOp2 inD (wVar 1) (wTup (waCons (wVar 2) (waCons (wVar 3) waNil))))) (wOp2 subD (wOp2 addD (wVar 2) (wVar 3)) (wVar 1))) waNil)) waNil)))
/-- _law_pool(cell): slots 0 cell:r; modes ['rd']; answer nw -/
def wb_l_pool : WS :=
  (wRet (wList (waCons (wBlt max2D (waCons (wC (.int 0)) (waCons (wOp2 subD (wVar 0) (wOp2 powD (wC (.int 10)) (wC (.int 18)))) waNil))) (waCons (wOp2 modD (wVar 0) (wOp2 powD (wC (.int 10)) (wC (.int 18)))) (waCons (wC (.int 0)) waNil)))))
/-- _law_sound(thing): slots 0 thing:r; modes ['rd']; answer fz -/
def wb_l_sound : WS :=
  (wRet (wAnd (wOp1 (isTD "int") (wVar 0)) (wNot (wOp1 (isTD "bool") (wVar 0)))))
structure Web where
  n : Int
  ts : List (Int × Int)
def dW (w : Web) : D := .tuple [.int w.n, .tuple (w.ts.map dP)]
def lexP (s t : Int × Int) : Prop := s.1 < t.1 ∨ (s.1 = t.1 ∧ s.2 < t.2)
structure Web.ok (w : Web) : Prop where
  n1 : 1 ≤ w.n
  n9 : w.n ≤ 9
  len : w.ts.length ≤ 20
  rg : ∀ t ∈ w.ts, 0 ≤ t.1 ∧ t.1 < t.2 ∧ t.2 < w.n
  srt : w.ts.Pairwise lexP
def nearF (w : Web) (p : Int) : List Int := isort ((w.ts.filter fun t => decide (p = t.1) || decide (p = t.2)).map fun t => t.1 + t.2 - p)
def S_near : FS := fun ds Post => ∃ w p, ds = [dW w, .int p] ∧ Post (.tuple ((nearF w p).map .int))
theorem m_near {rk : RK} : ∀ ds Post, S_near ds Post → wb_near { nx := fun _ => Post .none ∧ rk = .fz, rt := fun d _ => Post d } (startE 4 ds) := by
  rintro ds Post ⟨w, p, rfl, h⟩
  unfold wb_near startE
  simp [-Bool.exists_bool, -List.map_map, dW, r_comp]
  refine compL_map (fun t => decide (p = t.1) || decide (p = t.2)) (fun t => .int (t.1 + t.2 - p)) (fun t _ => ?_) ?_
  · simp [-Bool.exists_bool, -List.map_map, dP, inD_pair]
  · have e : (List.map (fun t : Int × Int => PyData.int (t.fst + t.snd - p)) (List.filter (fun t => decide (p = t.fst) || decide (p = t.snd)) w.ts)) = (List.map (fun t : Int × Int => t.fst + t.snd - p) (List.filter (fun t => decide (p = t.fst) || decide (p = t.snd)) w.ts)).map .int := by rw [List.map_map]; rfl
    rw [List.nil_append, e]
    simp [-Bool.exists_bool, -List.map_map]
    exact h
def S_l_next : FS := fun ds Post => ∃ b : Int, ds = [.none, .int b] ∧ 0 < b ∧ b < 1073741824 ∧ ∀ r, 0 ≤ r → r < b → Post (.int r)
theorem m_l_next {rk : RK} : ∀ ds Post, S_l_next ds Post → wb_l_next { nx := fun _ => Post .none ∧ rk = .fz, rt := fun d _ => Post d } (startE 5 ds) := by
  rintro ds Post ⟨b, rfl, h0, h1, h⟩
  unfold wb_l_next startE
  have m1 : ∀ x : Int, mulID (.int 7919) (.int x) = some (.int (7919 * x)) := fun x => mulID_i (okMul_l (by omega) (by omega))
  have m2 : ∀ x : Int, mulID (.int (x % 1000000007 + 11)) (.int (x % 1000000007 + 48271)) = some (.int ((x % 1000000007 + 11) * (x % 1000000007 + 48271))) := fun x => mulID_i (okMul_l (by omega) (by omega))
  have m3 : ∀ x : Int, mulID (.int (x % 998244353)) (.int (x % 998244353)) = some (.int ((x % 998244353) * (x % 998244353))) := fun x => mulID_i (okMul_l (by omega) (by omega))
  simp [-Bool.exists_bool, -List.map_map, h0, h1, m1, m2, m3]
  intro x
  split
  · exact fun y => h _ (Int.emod_nonneg _ (by omega)) (Int.emod_lt_of_pos _ h0)
  · exact fun y z => h _ (Int.emod_nonneg _ (by omega)) (Int.emod_lt_of_pos _ h0)
/-- a draw -/
theorem next_i {b : Int} {Post : D → Prop} (h0 : 0 < b) (h1 : b < 1073741824) (h : ∀ r, 0 ≤ r → r < b → Post (.int r)) : S_l_next [.none, .int b] Post := ⟨b, rfl, h0, h1, h⟩
def S_l_pool : FS := fun ds Post => ∃ c : Int, ds = [.int c] ∧ ∀ x y z : Int, Post (.list [.int x, .int y, .int z])
theorem m_l_pool {rk : RK} : ∀ ds Post, S_l_pool ds Post → wb_l_pool { nx := fun _ => Post .none ∧ rk = .fz, rt := fun d _ => Post d } (startE 1 ds) := by
  rintro ds Post ⟨c, rfl, h⟩
  unfold wb_l_pool startE
  simp [-Bool.exists_bool, -List.map_map, powD, h]
def S_l_sound : FS := fun ds Post => ∃ d, ds = [d] ∧ Post (.bool (tyD d == "int"))
theorem isT_int (t : String) : (if (t == "int" || t == "bool") = true then !(t == "bool") else false) = (t == "int") := by
  by_cases h1 : t = "int"
  · subst h1; decide
  · by_cases h2 : t = "bool"
    · subst h2; decide
    · simp [h1, h2]
theorem m_l_sound {rk : RK} : ∀ ds Post, S_l_sound ds Post → wb_l_sound { nx := fun _ => Post .none ∧ rk = .fz, rt := fun d _ => Post d } (startE 1 ds) := by
  rintro ds Post ⟨d, rfl, h⟩
  unfold wb_l_sound startE
  simp only [r_ret, r_and, r_op1, r_var, r_not]
  refine ⟨d, rfl, _, rfl, _, rfl, ?_⟩
  have e1 : isT "int" (tyD d) = (tyD d == "int" || tyD d == "bool") := by simp [isT]
  have e2 : isT "bool" (tyD d) = (tyD d == "bool") := by simp [isT]
  have := isT_int (tyD d)
  rw [e1]
  split
  · rename_i hc
    rw [if_pos hc] at this
    refine ⟨d, rfl, _, rfl, _, rfl, ?_⟩
    rw [e2, this]; exact h
  · rename_i hc
    rw [if_neg hc] at this
    rw [this]; exact h
def S_l_web : FS := fun ds Post => ∃ m : Int, ds = [.none, .int m] ∧ 1 ≤ m ∧ m ≤ 9 ∧ ∀ w : Web, w.ok → w.n ≤ m → Post (dW w)
theorem m_l_web {rk : RK} : ∀ ds Post, S_l_web ds Post → wb_l_web S_l_next { nx := fun _ => Post .none ∧ rk = .fz, rt := fun d _ => Post d } (startE 13 ds) := by
  rintro ds Post ⟨m, rfl, hm1, hm9, h⟩
  unfold wb_l_web startE
  simp [-Bool.exists_bool, -List.map_map, r_comp]
  refine next_i (by omega) (by omega) fun r0 a0 b0 => ?_
  simp [-Bool.exists_bool, -List.map_map]
  refine next_i (by omega) (by omega) fun way wa0 wa7 => next_i (by omega) (by omega) fun la la0 la4 => ?_
  simp [-Bool.exists_bool, -List.map_map]
  refine next_i (by omega) (by omega) fun cu cu0 cu1 => ⟨by omega, by omega, ?_⟩
  have hn : ∃ n : Int, n = 1 + r0 := ⟨_, rfl⟩
  obtain ⟨n, en⟩ := hn
  rw [← en]
  have n1 : 1 ≤ n := by omega
  have n9 : n ≤ 9 := by omega
  -- the roots
  refine compL_inv (fun i acc e => e = [some .none, some (.int m), some (.int n), some (.int way), some (.int (2 + la)), some (.int cu), none, none, none, none, none, none, none] ∧ ∃ rs : List Int, acc = rs.map .int ∧ rs.length = i) ⟨rfl, [], rfl, rfl⟩ ?_ ?_
  · rintro i x acc e hx ⟨rfl, rs, rfl, hl⟩
    rw [rangeD_ints] at hx
    obtain ⟨p, hp, rfl⟩ : ∃ p, p ∈ irng 0 n ∧ PyData.int p = x := by
      have := List.mem_of_getElem? hx
      simpa using this
    have hp' := mem_ints.mp hp
    refine ⟨_, rfl, fun R hR => ?_⟩
    simp [-Bool.exists_bool, -List.map_map]
    refine next_i (by split <;> omega) (by split <;> omega) fun r r0 r1 => ?_
    have := hR ((rs.map .int) ++ [.int r]) _ ⟨rfl, rs ++ [r], by simp, by simp [hl]⟩
    simpa using this
  · rintro acc e ⟨rfl, rs, rfl, hl⟩
    rw [rangeD_ints, List.length_map, ints_len] at hl
    simp [-Bool.exists_bool, -List.map_map]
    refine ⟨by omega, by omega, ?_⟩
    refine forL_inv (fun i e => ∃ (ps : List (Int × Int)) (A B C L : Option D), e = [some .none, some (.int m), some (.int n), some (.int way), some (.int (2 + la)), some (.int cu), some (.list (rs.map .int)), some (.list (ps.map dP)), A, B, C, L, none] ∧
      ps.length ≤ 20 ∧ ps.Pairwise lexP ∧ ∀ t ∈ ps, 0 ≤ t.1 ∧ t.1 < t.2 ∧ t.2 < n ∧ t.1 < (i : Int)) ⟨[], none, none, none, none, rfl, by simp, .nil, by simp⟩ ?_ ?_
    · rintro i e x R hx ⟨ps, A, B, C, L, rfl, hl20, hsr, hrg⟩ hR
      rw [rangeD_ints] at hx
      have hi : i < (n - 0).toNat := by
        have := (List.getElem?_eq_some_iff.mp hx).1
        simpa [ints_len] using this
      rw [List.getElem?_map, ints_get hi] at hx
      simp at hx
      subst hx
      simp [-Bool.exists_bool, -List.map_map]
      refine ⟨by omega, by omega, by omega, by omega, ?_⟩
      refine forL_inv (fun j e => ∃ (ps : List (Int × Int)) (B C L : Option D), e = [some .none, some (.int m), some (.int n), some (.int way), some (.int (2 + la)), some (.int cu), some (.list (rs.map .int)), some (.list (ps.map dP)), some (.int (i : Int)), B, C, L, none] ∧
        ps.length ≤ 20 ∧ ps.Pairwise lexP ∧ ∀ t ∈ ps, 0 ≤ t.1 ∧ t.1 < t.2 ∧ t.2 < n ∧ (t.1 < (i : Int) ∨ (t.1 = (i : Int) ∧ t.2 < (i : Int) + 1 + (j : Int)))) ⟨ps, B, C, L, rfl, hl20, hsr, fun t ht => ⟨(hrg t ht).1, (hrg t ht).2.1, (hrg t ht).2.2.1, .inl (hrg t ht).2.2.2⟩⟩ ?_ ?_
      · rintro j e x R' hx ⟨ps, B, C, L, rfl, hl20, hsr, hrg⟩ hR'
        rw [rangeD_ints] at hx
        have hj : j < (n - ((i : Int) + 1)).toNat := by
          have := (List.getElem?_eq_some_iff.mp hx).1
          simpa [ints_len] using this
        rw [List.getElem?_map, ints_get hj] at hx
        simp at hx
        subst hx
        have hroot : ∃ r : Int, ixD (.list (rs.map .int)) (.int ((i : Int) + 1 + (j : Int))) = some (.int r) := by
          have hk : i + 1 + j < rs.length := by omega
          refine ⟨rs[i + 1 + j], ?_⟩
          have := ixD_l (xs := rs.map .int) (i := i + 1 + j) (x := .int rs[i + 1 + j]) (by rw [List.getElem?_map, List.getElem?_eq_getElem hk]; rfl)
          rwa [show (((i + 1 + j : Nat)) : Int) = (i : Int) + 1 + (j : Int) by omega] at this
        obtain ⟨r, hroot⟩ := hroot
        refine ⟨_, rfl, ?_⟩
        refine seq_cut (fun e => ∃ ch : Int, e = [some .none, some (.int m), some (.int n), some (.int way), some (.int (2 + la)), some (.int cu), some (.list (rs.map .int)), some (.list (ps.map dP)), some (.int (i : Int)), some (.int ((i : Int) + 1 + (j : Int))), some (.int ch), L, none]) (fun R hR => ?_) ?_
        · simp [-Bool.exists_bool, -List.map_map]
          exact next_i (by omega) (by omega) fun ch ch0 ch6 => hR _ ⟨ch, rfl⟩
        rintro _ ⟨ch, rfl⟩
        refine seq_cut (fun e => ∃ l0 l1 l2 l3 : Bool, e = [some .none, some (.int m), some (.int n), some (.int way), some (.int (2 + la)), some (.int cu), some (.list (rs.map .int)), some (.list (ps.map dP)), some (.int (i : Int)), some (.int ((i : Int) + 1 + (j : Int))), some (.int ch), some (.list [.bool l0, .bool l1, .bool l2, .bool l3]), none]) (fun R hR => ?_) ?_
        · simp [-Bool.exists_bool, -List.map_map, hroot]
          repeat' (first | exact hR _ ⟨_, _, _, _, rfl⟩ | split)
        rintro _ ⟨l0, l1, l2, l3, rfl⟩
        refine seq_cut (fun e => ∃ l4 l5 l6 : Bool, e = [some .none, some (.int m), some (.int n), some (.int way), some (.int (2 + la)), some (.int cu), some (.list (rs.map .int)), some (.list (ps.map dP)), some (.int (i : Int)), some (.int ((i : Int) + 1 + (j : Int))), some (.int ch), some (.list ([l0, l1, l2, l3, l4, l5, l6].map .bool)), none]) (fun R hR => ?_) ?_
        · simp [-Bool.exists_bool, -List.map_map, hroot, addD]
          repeat' (first | exact hR _ ⟨_, _, _, rfl⟩ | split)
        rintro _ ⟨l4, l5, l6, rfl⟩
        have hluck : ∃ b : Bool, ixD (.list ([l0, l1, l2, l3, l4, l5, l6].map .bool)) (.int way) = some (.bool b) := by
          obtain ⟨k, rfl⟩ : ∃ k : Nat, way = (k : Int) := ⟨way.toNat, by omega⟩
          have hk : k < 7 := by omega
          refine ⟨[l0, l1, l2, l3, l4, l5, l6].getD k false, ixD_l ?_⟩
          match k, hk with
          | 0, _ => rfl
          | 1, _ => rfl
          | 2, _ => rfl
          | 3, _ => rfl
          | 4, _ => rfl
          | 5, _ => rfl
          | 6, _ => rfl
        obtain ⟨lk, hluck⟩ := hluck
        have same : R' _ := hR' _ ⟨ps, some (.int ((i : Int) + 1 + (j : Int))), some (.int ch), some (.list ([l0, l1, l2, l3, l4, l5, l6].map .bool)), rfl, hl20, hsr, fun t ht => ⟨(hrg t ht).1, (hrg t ht).2.1, (hrg t ht).2.2.1, (hrg t ht).2.2.2.imp id fun q => ⟨q.1, by omega⟩⟩⟩
        simp [-Bool.exists_bool, -List.map_map, -List.map_cons, hluck, appendF]
        cases lk with
        | false => simpa using same
        | true =>
          simp [-List.map_map, -List.map_cons]
          split
          · rename_i h20
            refine ⟨_, _, ⟨by omega, rfl, rfl⟩, ?_⟩
            have := hR' [some .none, some (.int m), some (.int n), some (.int way), some (.int (2 + la)), some (.int cu), some (.list (rs.map .int)), some (.list ((ps ++ [((i : Int), (i : Int) + 1 + (j : Int))]).map dP)), some (.int (i : Int)), some (.int ((i : Int) + 1 + (j : Int))), some (.int ch), some (.list ([l0, l1, l2, l3, l4, l5, l6].map .bool)), none]
              ⟨_, _, _, _, rfl, by simp; omega, ?_, ?_⟩
            · simpa [dP] using this
            · rw [List.pairwise_append]
              refine ⟨hsr, by simp, fun s hs t ht => ?_⟩
              simp at ht; subst ht
              rcases (hrg s hs).2.2.2 with q | q
              · exact .inl q
              · exact .inr ⟨q.1, by simp; omega⟩
            · intro t ht
              rcases List.mem_append.mp ht with ht | ht
              · exact ⟨(hrg t ht).1, (hrg t ht).2.1, (hrg t ht).2.2.1, (hrg t ht).2.2.2.imp id fun q => ⟨q.1, by omega⟩⟩
              · simp at ht; subst ht
                exact ⟨by show (0 : Int) ≤ i; omega, by show (i : Int) < i + 1 + j; omega, by show (i : Int) + 1 + j < n; omega, .inr ⟨rfl, by show (i : Int) + 1 + j < i + 1 + ((j + 1 : Nat) : Int); omega⟩⟩
          · exact same
      · rintro e ⟨ps, B, C, L, rfl, hl20, hsr, hrg⟩
        refine hR _ ⟨ps, some (.int (i : Int)), B, C, L, rfl, hl20, hsr, fun t ht => ⟨(hrg t ht).1, (hrg t ht).2.1, (hrg t ht).2.2.1, ?_⟩⟩
        rcases (hrg t ht).2.2.2 with q | q <;> omega
    · rintro e ⟨ps, A, B, C, L, rfl, hl20, hsr, hrg⟩
      simp [-Bool.exists_bool, -List.map_map]
      exact h ⟨n, ps⟩ ⟨n1, n9, hl20, fun t ht => ⟨(hrg t ht).1, (hrg t ht).2.1, (hrg t ht).2.2.1⟩, hsr⟩ (by show n ≤ m; omega)
end Lib
end G7

/-! webs as graphs: reach, pieces -/
namespace G7
namespace Lib
open PySem
open Classical in
theorem strict_ext : ∀ {l m : List Int}, l.Pairwise (· < ·) → m.Pairwise (· < ·) → (∀ x, x ∈ l ↔ x ∈ m) → l = m
  | [], [], _, _, _ => rfl
  | [], y :: m, _, _, h => by have := (h y).mpr (by simp); simp at this
  | x :: l, [], _, _, h => by have := (h x).mp (by simp); simp at this
  | x :: l, y :: m, hl, hm, h => by
    have hl' := List.pairwise_cons.mp hl
    have hm' := List.pairwise_cons.mp hm
    have e : x = y := by
      rcases List.mem_cons.mp ((h x).mp (by simp)) with e | h1
      · exact e
      · rcases List.mem_cons.mp ((h y).mpr (by simp)) with e | h2
        · exact e.symm
        · have a := hm'.1 x h1
          have b := hl'.1 y h2
          omega
    subst e
    rw [strict_ext hl'.2 hm'.2 fun z => ?_]
    constructor
    · intro hz
      rcases List.mem_cons.mp ((h z).mp (by simp [hz])) with e | q
      · subst e; have := hl'.1 z hz; omega
      · exact q
    · intro hz
      rcases List.mem_cons.mp ((h z).mpr (by simp [hz])) with e | q
      · subst e; have := hm'.1 z hz; omega
      · exact q
theorem isort_strict {l : List Int} (h : l.Nodup) : (isort l).Pairwise (· < ·) := by
  have h1 := isort_sorted l
  have h2 : (isort l).Nodup := (isort_perm l).nodup_iff.mpr h
  have := List.Pairwise.and h1 (List.nodup_iff_pairwise_ne.mp h2)
  exact this.imp fun ⟨a, b⟩ => by omega
theorem mem_isort {l : List Int} {x : Int} : x ∈ isort l ↔ x ∈ l := (isort_perm l).mem_iff
/-- tied -/
def T (w : Web) (a b : Int) : Prop := (a, b) ∈ w.ts ∨ (b, a) ∈ w.ts
theorem T.symm {w : Web} {a b : Int} (h : T w a b) : T w b a := h.elim .inr .inl
theorem T.rg {w : Web} (o : w.ok) {a b : Int} (h : T w a b) : 0 ≤ a ∧ a < w.n ∧ 0 ≤ b ∧ b < w.n ∧ a ≠ b := by
  rcases h with h | h <;> have := o.rg _ h <;> simp at this <;> omega
theorem mem_near {w : Web} (o : w.ok) {p x : Int} : x ∈ nearF w p ↔ T w p x := by
  unfold nearF
  rw [mem_isort, List.mem_map]
  constructor
  · rintro ⟨⟨a, b⟩, ht, e⟩
    rw [List.mem_filter] at ht
    obtain ⟨h1, h2⟩ := ht
    simp at h2 e
    rcases h2 with h2 | h2
    · subst h2; have : x = b := by omega
      subst this; exact .inl h1
    · subst h2; have : x = a := by omega
      subst this; exact .inr h1
  · rintro (h | h)
    · exact ⟨(p, x), List.mem_filter.mpr ⟨h, by simp⟩, by show p + x - p = x; omega⟩
    · exact ⟨(x, p), List.mem_filter.mpr ⟨h, by simp⟩, by show x + p - p = x; omega⟩
inductive Reach (w : Web) (p : Int) : Int → Prop
  | refl : Reach w p p
  | step {a b : Int} : Reach w p a → T w a b → Reach w p b
theorem Reach.rg {w : Web} (o : w.ok) {p q : Int} (hp : 0 ≤ p ∧ p < w.n) (h : Reach w p q) : 0 ≤ q ∧ q < w.n := by
  induction h with
  | refl => exact hp
  | step _ t _ => have := t.rg o; omega
theorem Reach.trans {w : Web} {p q r : Int} (h : Reach w p q) (h2 : Reach w q r) : Reach w p r := by
  induction h2 with
  | refl => exact h
  | step _ t ih => exact .step ih t
theorem Reach.symm {w : Web} {p q : Int} (h : Reach w p q) : Reach w q p := by
  induction h with
  | refl => exact .refl
  | step _ t ih => exact (Reach.step .refl t.symm).trans ih
open Classical in
noncomputable def pieceF (w : Web) (p : Int) : List Int := (irng 0 w.n).filter fun q => decide (Reach w p q)
theorem mem_piece {w : Web} (o : w.ok) {p q : Int} (hp : 0 ≤ p ∧ p < w.n) : q ∈ pieceF w p ↔ Reach w p q := by
  unfold pieceF
  rw [List.mem_filter]
  constructor
  · exact fun h => by simpa using h.2
  · exact fun h => ⟨mem_ints.mpr (h.rg o hp), by simpa using h⟩
theorem piece_strict (w : Web) (p : Int) : (pieceF w p).Pairwise (· < ·) := (ints_sorted 0 w.n).filter _
/-- what is found: closed, from p on -/
theorem piece_eq {w : Web} (o : w.ok) {p : Int} (hp : 0 ≤ p ∧ p < w.n) {fs : List Int} (nd : fs.Nodup) (hm : p ∈ fs) (hr : ∀ x ∈ fs, Reach w p x) (hc : ∀ x ∈ fs, ∀ y, T w x y → y ∈ fs) : isort fs = pieceF w p := by
  refine strict_ext (isort_strict nd) (piece_strict w p) fun x => ?_
  rw [mem_isort, mem_piece o hp]
  refine ⟨hr x, fun h => ?_⟩
  induction h with
  | refl => exact hm
  | step _ t ih => exact hc _ ih _ t
theorem nodup_le {l m : List Int} (h : l.Nodup) (s : ∀ x ∈ l, x ∈ m) : l.length ≤ m.length := by
  induction l generalizing m with
  | nil => simp
  | cons x l ih =>
    have h' := List.nodup_cons.mp h
    have hx : x ∈ m := s x (by simp)
    have := ih (m := m.erase x) h'.2 fun y hy => by
      have hne : y ≠ x := fun e => h'.1 (by rw [← e]; exact hy)
      exact (List.mem_erase_of_ne hne).mpr (s y (by simp [hy]))
    rw [List.length_erase_of_mem hx] at this
    have : 0 < m.length := List.length_pos_of_mem hx
    simp; omega
/-! piece_of -/
/-- piece_of(web, place): slots 0 web:r, 1 place:v, 2 found:o, 3 at:v, 4 other:v; modes ['rd', 'fz']; answer fz -/
def wb_piece_of (S_near : FS) : WS :=
  (wSeq (wAsg 2 (wList (waCons (wVar 1) waNil)))
    (wSeq (wAsg 3 (wC (.int 0)))
    (wSeq (wWhile (tVal (wOp2 ltD (wVar 3) (wBlt lenD (waCons (wVar 2) waNil)))) (wSeq (wExpr (wMut 2 extendF (waCons (wComp (wiSeq (wCall S_near (waCons (wVar 0) (waCons (wOp2 ixD (wVar 2) (wVar 3)) waNil)))) (gN 4) [4] (tVal (wOp2 notInD (wVar 4) (wVar 2))) (wVar 4)) waNil)))
    (wAsg 3 (wOp2 addD (wVar 3) (wC (.int 1))))))
    (wRet (wBlt tupD (waCons (wBlt sortedAD (waCons (wVar 2) waNil)) waNil))))))
def S_piece_of : FS := fun ds Post => ∃ w p, ds = [dW w, .int p] ∧ w.ok ∧ 0 ≤ p ∧ p < w.n ∧ Post (.tuple ((pieceF w p).map .int))
theorem near_nodup {w : Web} (o : w.ok) (p : Int) : (nearF w p).Nodup := by
  unfold nearF
  rw [(isort_perm _).nodup_iff]
  rw [List.nodup_iff_pairwise_ne, List.pairwise_map]
  have h : ((w.ts.filter fun t => decide (p = t.1) || decide (p = t.2))).Pairwise lexP := o.srt.filter _
  refine h.imp_of_mem fun {a b} ha hb hl => ?_
  have h1 := o.rg a (List.mem_filter.mp ha).1
  have h2 := o.rg b (List.mem_filter.mp hb).1
  have h3 := (List.mem_filter.mp ha).2
  have h4 := (List.mem_filter.mp hb).2
  simp at h3 h4
  unfold lexP at hl
  omega
theorem m_piece_of {rk : RK} : ∀ ds Post, S_piece_of ds Post → wb_piece_of S_near { nx := fun _ => Post .none ∧ rk = .fz, rt := fun d _ => Post d } (startE 5 ds) := by
  rintro ds Post ⟨w, p, rfl, o, hp0, hp1, h⟩
  have hp := And.intro hp0 hp1
  unfold wb_piece_of startE
  simp [-Bool.exists_bool, -List.map_map]
  refine whileN_inv (fun e => ∃ (fs : List Int) (k : Nat) (X : Option D), e = [some (dW w), some (.int p), some (.list (fs.map .int)), some (.int (k : Int)), X] ∧ fs.Nodup ∧ p ∈ fs ∧ (∀ x ∈ fs, Reach w p x) ∧ k ≤ fs.length ∧ ∀ j x, j < k → fs[j]? = some x → ∀ y, T w x y → y ∈ fs)
    (fun e => match e[3]? with | some (some (PyData.int k)) => (100 - k).toNat | _ => 0) ?_ ⟨[p], 0, none, rfl, by simp, by simp, fun x hx => by simp at hx; subst hx; exact .refl, by simp, by simp⟩
  rintro e R ⟨fs, k, X, rfl, nd, hm, hr, hk, hc⟩ hR
  have hlen : fs.length ≤ 9 := by
    have h1 := nodup_le (m := irng 0 w.n) nd fun x hx => mem_ints.mpr ((hr x hx).rg o hp)
    rw [ints_len] at h1
    have := o.n9
    omega
  simp [-Bool.exists_bool, -List.map_map]
  split
  · rename_i hlt
    obtain ⟨x, hx⟩ : ∃ x, fs[k]? = some x := ⟨fs[k], List.getElem?_eq_getElem hlt⟩
    have hix : ixD (.list (fs.map .int)) (.int (k : Int)) = some (.int x) := ixD_l (by rw [List.getElem?_map, hx]; rfl)
    simp [-Bool.exists_bool, -List.map_map, r_comp, hix]
    refine ⟨w, x, rfl, ?_⟩
    simp [-Bool.exists_bool, -List.map_map]
    have hxm : x ∈ fs := List.mem_of_getElem? hx
    have hnd2 : ((nearF w x).filter fun y => !decide (y ∈ fs)).Nodup := (near_nodup o x).filter _
    have hsub : ∀ y ∈ (nearF w x).filter (fun y => !decide (y ∈ fs)), T w x y ∧ y ∉ fs := fun y hy => by
      have := List.mem_filter.mp hy
      exact ⟨(mem_near o).mp this.1, by simpa using this.2⟩
    generalize hne : (nearF w x).filter (fun y => !decide (y ∈ fs)) = ne at hnd2 hsub
    have hnl : ne.length ≤ 9 := by
      have h1 := nodup_le (m := irng 0 w.n) hnd2 fun y hy => mem_ints.mpr ⟨((hsub y hy).1.rg o).2.2.1, ((hsub y hy).1.rg o).2.2.2.1⟩
      rw [ints_len] at h1
      have := o.n9
      omega
    refine compL_map (fun y => !decide (y ∈ fs)) (fun y => .int y) (fun y _ => ?_) ?_
    · refine ⟨_, rfl, ?_⟩
      simp [-Bool.exists_bool, -List.map_map, -Bool.not_eq_eq_eq_not, notInD_l (f := PyData.int) eqv_ii (fun _ => lay_int (k := 0) _)]
    · rw [hne]
      simp [-Bool.exists_bool, -List.map_map]
      rw [extendF_ok (by simp; omega)]
      refine ⟨_, _, rfl, hR _ ⟨fs ++ ne, k + 1, _, by simp; rfl, ?_, by simp [hm], ?_, by simp; omega, ?_⟩ ?_⟩
      · rw [List.nodup_append]
        exact ⟨nd, hnd2, fun a ha b hb e => (hsub b hb).2 (e ▸ ha)⟩
      · intro y hy
        rcases List.mem_append.mp hy with h1 | h1
        · exact hr y h1
        · exact (hr x hxm).step (hsub y h1).1
      · intro j z hj hz y hy
        by_cases hjk : j = k
        · subst hjk
          rw [List.getElem?_append_left hlt, hx] at hz
          cases hz
          by_cases hyf : y ∈ fs
          · simp [hyf]
          · have : y ∈ ne := by rw [← hne]; exact List.mem_filter.mpr ⟨(mem_near o).mpr hy, by simp [hyf]⟩
            simp [this]
        · rw [List.getElem?_append_left (by omega)] at hz
          have := hc j z (by omega) hz y hy
          simp [this]
      · simp; omega
  · rename_i hlt
    have hkl : k = fs.length := by omega
    have := piece_eq o hp nd hm hr fun x hx y ht => by
      obtain ⟨j, hj, e⟩ := List.getElem_of_mem hx
      exact hc j x (by omega) (by rw [List.getElem?_eq_getElem hj, e]) y ht
    simp [-Bool.exists_bool, -List.map_map, this]
    exact h
/-! pieces -/
/-- pieces(web): slots 0 web:r, 1 found:o, 2 place:v, 3 piece:v; modes ['rd']; answer nw -/
def wb_pieces (S_piece_of : FS) : WS :=
  (wSeq (wAsg 1 (wList waNil))
    (wSeq (wFor (wiRg1 (wOp2 ixD (wVar 0) (wC (.int 0)))) (gN 2) (wSeq (wAsg 3 (wCall S_piece_of (waCons (wVar 0) (waCons (wVar 2) waNil))))
    (wIf (tVal (wOp2 notInD (wVar 3) (wVar 1))) (wExpr (wMut 1 appendF (waCons (wVar 3) waNil))) wNil)))
    (wRet (wVar 1))))
def dT (l : List Int) : D := .tuple (l.map .int)
theorem eqv_dT (a b : List Int) : PyData.eqv (dT a) (dT b) = decide (a = b) := eqv_tup eqv_ii a b
theorem lay_dT (a : List Int) {k : Nat} : lay (k + 1) (dT a) := lay_tup (lay_ints a)
noncomputable def stepP (w : Web) (acc : List (List Int)) (p : Int) : List (List Int) := if pieceF w p ∈ acc then acc else acc ++ [pieceF w p]
noncomputable def piecesF (w : Web) : List (List Int) := (irng 0 w.n).foldl (stepP w) []
theorem stepP_len (w : Web) : ∀ (ps : List Int) (acc : List (List Int)), (ps.foldl (stepP w) acc).length ≤ acc.length + ps.length
  | [], acc => by simp
  | p :: ps, acc => by
    have := stepP_len w ps (stepP w acc p)
    simp only [List.foldl_cons, List.length_cons]
    have h2 : (stepP w acc p).length ≤ acc.length + 1 := by unfold stepP; split <;> simp
    omega
/-- the fold, a step on -/
theorem foldl_take_succ {α β : Type} (f : β → α → β) (b : β) {l : List α} {i : Nat} {x : α} (h : l[i]? = some x) : (l.take (i + 1)).foldl f b = f ((l.take i).foldl f b) x := by
  rw [List.take_succ, h]; simp
theorem irng_at {lo hi : Int} {i : Nat} {x : D} (h : (rangeD lo hi)[i]? = some x) : x = .int (lo + (i : Int)) ∧ i < (hi - lo).toNat ∧ (irng lo hi)[i]? = some (lo + (i : Int)) := by
  rw [rangeD_ints] at h
  have hi : i < (hi - lo).toNat := by
    have := (List.getElem?_eq_some_iff.mp h).1
    simpa [ints_len] using this
  rw [List.getElem?_map, ints_get hi] at h
  simp at h
  exact ⟨h.symm, hi, ints_get hi⟩
def S_pieces : FS := fun ds Post => ∃ w, ds = [dW w] ∧ w.ok ∧ Post (.list ((piecesF w).map dT))
theorem m_pieces {rk : RK} : ∀ ds Post, S_pieces ds Post → wb_pieces S_piece_of { nx := fun _ => Post .none ∧ rk = .fz, rt := fun d _ => Post d } (startE 4 ds) := by
  rintro ds Post ⟨w, rfl, o, h⟩
  have n1 := o.n1
  have n9 := o.n9
  unfold wb_pieces startE
  simp [-Bool.exists_bool, -List.map_map]
  have h0 : ixD (dW w) (.int 0) = some (.int w.n) := rfl
  rw [h0]
  refine ⟨_, rfl, _, rfl, by omega, by omega, ?_⟩
  refine forL_inv (fun i e => ∃ X Y, e = [some (dW w), some (.list ((((irng 0 w.n).take i).foldl (stepP w) []).map dT)), X, Y]) ⟨none, none, rfl⟩ ?_ ?_
  · rintro i e x R hx ⟨X, Y, rfl⟩ hR
    obtain ⟨rfl, hi, hg⟩ := irng_at hx
    have := stepP_len w ((irng 0 w.n).take i) []
    have hl : (((irng 0 w.n).take i).foldl (stepP w) []).length ≤ 9 := by
      rw [List.length_take, ints_len] at this
      simp at this; omega
    have hs := foldl_take_succ (stepP w) [] hg
    simp [-Bool.exists_bool, -List.map_map]
    refine ⟨w, _, rfl, o, by omega, by omega, ?_⟩
    generalize ((irng 0 w.n).take i).foldl (stepP w) [] = acc at *
    have hn : notInD (.tuple ((pieceF w (i : Int)).map .int)) (.list (acc.map dT)) = some (.bool (!decide (pieceF w (i : Int) ∈ acc))) := notInD_l (f := dT) eqv_dT (fun a => lay_dT a (k := 0)) _ acc
    have hs' : stepP w acc (0 + (i : Int)) = if pieceF w (i : Int) ∈ acc then acc else acc ++ [pieceF w (i : Int)] := by rw [Int.zero_add]; rfl
    rw [hs'] at hs
    rw [hn]
    refine ⟨_, rfl, _, rfl, ?_⟩
    by_cases hm : pieceF w (i : Int) ∈ acc
    · simp [-List.map_map, hm]
      rw [if_pos hm] at hs
      exact hR _ ⟨_, _, by rw [hs]⟩
    · simp [-List.map_map, hm]
      rw [if_neg hm] at hs
      rw [appendF_ok (by simp; omega)]
      refine ⟨_, _, rfl, hR _ ⟨some (.int (i : Int)), some (.tuple ((pieceF w (i : Int)).map .int)), ?_⟩⟩
      rw [hs]; simp [dT]
  · rintro e ⟨X, Y, rfl⟩
    simp [-Bool.exists_bool, -List.map_map]
    rw [List.take_of_length_le (by rw [ints_len, rangeD_ints, List.length_map, ints_len]; exact Nat.le_refl _)]
    exact h
end Lib
end G7

/-! webs drawn of cells, with names anew: shared by many laws -/
namespace G7
namespace Lib
open PySem
/-- _law_dig(cell): slots 0 cell:r; modes ['rd']; answer nw -/
def wb_l_dig : WS :=
  (wRet (wList (waCons (wBlt max2D (waCons (wC (.int 0)) (waCons (wOp2 subD (wVar 0) (wOp2 powD (wC (.int 10)) (wC (.int 18)))) waNil))) (waCons (wOp2 modD (wVar 0) (wOp2 powD (wC (.int 10)) (wC (.int 18)))) (waCons (wC (.int 0)) waNil)))))
/-- _law_renamed(web, names): slots 0 web:r, 1 names:r, 2 ties:v, 3 a:v, 4 b:v; modes ['rd', 'rd']; answer fz -/
def wb_l_renamed : WS :=
  (wSeq (wAsg 2 (wComp (wiSeq (wOp2 ixD (wVar 0) (wC (.int 1)))) (gT [(gN 3), (gN 4)]) [3, 4] G7.tYes (wTup (waCons (wBlt min2D (waCons (wOp2 ixD (wVar 1) (wVar 3)) (waCons (wOp2 ixD (wVar 1) (wVar 4)) waNil))) (waCons (wBlt max2D (waCons (wOp2 ixD (wVar 1) (wVar 3)) (waCons (wOp2 ixD (wVar 1) (wVar 4)) waNil))) waNil)))))
    (wRet (wTup (waCons (wOp2 ixD (wVar 0) (wC (.int 0))) (waCons (wBlt tupD (waCons (wBlt sortedAD (waCons (wVar 2) waNil)) waNil)) waNil)))))
/-- _law_order(pool, many): slots 0 pool:p, 1 many:r, 2 left:o, 3 k:v; modes ['pl', 'rd']; answer fz -/
def wb_l_orderC (S_l_next : FS) : WS :=
  (wSeq (wAsg 2 (wLstRg (wiRg1 (wVar 1))))
    (wRet (wBlt tupXD (waCons (wComp (wiRg1 (wVar 1)) (gN 3) [3] G7.tYes (wMut 2 popAtF (waCons (wCall S_l_next (waCons (wVar 0) (waCons (wBlt lenD (waCons (wVar 2) waNil)) waNil))) waNil))) waNil))))
/-- _law_cell(script, k): slots 0 script:r, 1 k:r; modes ['rd', 'rd']; answer fz -/
def wb_l_cell : WS :=
  (wSeq (wIf (tVal (wOp2 ltD (wVar 1) (wBlt lenD (waCons (wVar 0) waNil)))) (wRet (wOp2 ixD (wVar 0) (wVar 1))) wNil)
    (wRet (wOp2 addD (wOp2 mulID (wOp2 mulID (wC (.int 7919)) (wVar 1)) (wVar 1)) (wOp2 mulID (wC (.int 31)) (wVar 1)))))
@[simp] theorem tupXD_l (ds : List D) : tupXD [.list ds] = some (xtD ds) := rfl
theorem map_erase {α β : Type} (f : α → β) : ∀ (l : List α) (k : Nat), (l.map f).eraseIdx k = (l.eraseIdx k).map f
  | [], _ => rfl
  | _ :: _, 0 => rfl
  | x :: l, k + 1 => by simp [map_erase f l k]
theorem erase_perm {α : Type} : ∀ {l : List α} {k : Nat} (h : k < l.length), (l[k] :: l.eraseIdx k).Perm l
  | _ :: _, 0, _ => List.Perm.refl _
  | x :: l, k + 1, h => by
    have := erase_perm (l := l) (k := k) (by simpa using h)
    simp only [List.getElem_cons_succ, List.eraseIdx_cons_succ]
    exact (List.Perm.swap _ _ _).trans (this.cons x)
def S_l_dig : FS := fun ds Post => ∃ c : Int, ds = [.int c] ∧ ∀ x y z : Int, Post (.list [.int x, .int y, .int z])
theorem m_l_dig {rk : RK} : ∀ ds Post, S_l_dig ds Post → wb_l_dig { nx := fun _ => Post .none ∧ rk = .fz, rt := fun d _ => Post d } (startE 1 ds) := by
  rintro ds Post ⟨c, rfl, h⟩
  unfold wb_l_dig startE
  simp [-Bool.exists_bool, -List.map_map, powD, h]
def S_l_cell : FS := fun ds Post => ∃ (ns : List Int) (k : Nat), ds = [.list (ns.map .int), .int (k : Int)] ∧ k ≤ 100000 ∧ ∀ c : Int, Post (.int c)
theorem m_l_cell {rk : RK} : ∀ ds Post, S_l_cell ds Post → wb_l_cell { nx := fun _ => Post .none ∧ rk = .fz, rt := fun d _ => Post d } (startE 2 ds) := by
  rintro ds Post ⟨ns, k, rfl, hk, h⟩
  unfold wb_l_cell startE
  simp [-Bool.exists_bool, -List.map_map]
  split
  · rename_i hlt
    rw [ixD_l (x := .int ns[k]) (by rw [List.getElem?_map, List.getElem?_eq_getElem hlt]; rfl)]
    exact ⟨_, rfl, h _⟩
  · rw [mulID_i (okMul_l (by omega) (by omega)), ]
    refine ⟨_, rfl, ?_⟩
    rw [mulID_i (okMul_r (by omega) (by omega)), mulID_i (okMul_l (by omega) (by omega))]
    refine ⟨_, rfl, _, rfl, _, rfl, h _⟩
def S_l_orderC : FS := fun ds Post => ∃ n : Int, ds = [.none, .int n] ∧ 0 ≤ n ∧ n ≤ 1000 ∧ ∀ ps : List Int, ps.Perm (irng 0 n) → Post (xtD (ps.map .int))
theorem m_l_orderC {rk : RK} : ∀ ds Post, S_l_orderC ds Post → wb_l_orderC S_l_next { nx := fun _ => Post .none ∧ rk = .fz, rt := fun d _ => Post d } (startE 4 ds) := by
  rintro ds Post ⟨n, rfl, h0, h1, h⟩
  unfold wb_l_orderC startE
  simp [-Bool.exists_bool, -List.map_map, r_comp]
  refine ⟨by omega, by omega, by omega, by omega, ?_⟩
  refine compL_inv (fun i acc e => ∃ ts ls : List Int, e = [some .none, some (.int n), some (.list (ls.map .int)), none] ∧ acc = ts.map .int ∧ ts.length = i ∧ (ts ++ ls).Perm (irng 0 n)) ⟨[], irng 0 n, by rw [rangeD_ints], rfl, rfl, List.Perm.refl _⟩ ?_ ?_
  · rintro i x acc e hx ⟨ts, ls, rfl, rfl, hl, hp⟩
    obtain ⟨rfl, hi, _⟩ := irng_at hx
    have hlen := hp.length_eq
    rw [List.length_append, ints_len] at hlen
    refine ⟨_, rfl, fun R hR => ?_⟩
    simp [-Bool.exists_bool, -List.map_map]
    refine next_i (by omega) (by omega) fun r r0 r1 => ?_
    obtain ⟨k, rfl⟩ : ∃ k : Nat, r = (k : Int) := ⟨r.toNat, by omega⟩
    have hk : k < ls.length := by omega
    rw [popAtF_ok (y := .int ls[k]) (by rw [List.getElem?_map, List.getElem?_eq_getElem hk]; rfl)]
    refine ⟨_, _, rfl, ?_⟩
    have := hR (ts.map .int ++ [.int ls[k]]) _ ⟨ts ++ [ls[k]], ls.eraseIdx k, rfl, by simp, by simp [hl], ?_⟩
    · simpa [map_erase] using this
    · refine List.Perm.trans ?_ hp
      rw [List.append_assoc]
      refine List.Perm.append_left _ ?_
      exact erase_perm hk
  · rintro acc e ⟨ts, ls, rfl, rfl, hl, hp⟩
    have hlen := hp.length_eq
    rw [List.length_append, ints_len] at hlen
    rw [rangeD_ints, List.length_map, ints_len] at hl
    have : ls = [] := List.eq_nil_of_length_eq_zero (by omega)
    subst this
    exact h ts (by simpa using hp)
/-! names anew -/
def renP (ps : List Int) (t : Int × Int) : Int × Int := let a := ps.getD t.1.toNat 0; let b := ps.getD t.2.toNat 0; (if b < a then b else a, if b > a then b else a)
structure good (n : Int) (ts : List (Int × Int)) : Prop where
  nd : ts.Nodup
  rg : ∀ t ∈ ts, 0 ≤ t.1 ∧ t.1 < t.2 ∧ t.2 < n
theorem perm_get {ps : List Int} {n : Int} (hp : ps.Perm (irng 0 n)) {i : Int} (h0 : 0 ≤ i) (h1 : i < n) : ∃ hk : i.toNat < ps.length, ps.getD i.toNat 0 = ps[i.toNat] ∧ 0 ≤ ps[i.toNat] ∧ ps[i.toNat] < n := by
  have hl := hp.length_eq
  rw [ints_len] at hl
  have hk : i.toNat < ps.length := by omega
  refine ⟨hk, by rw [List.getD_eq_getElem?_getD, List.getElem?_eq_getElem hk]; rfl, ?_⟩
  have : ps[i.toNat] ∈ irng 0 n := hp.mem_iff.mp (List.getElem_mem hk)
  exact mem_ints.mp this
theorem perm_inj {ps : List Int} {n : Int} (hp : ps.Perm (irng 0 n)) {i j : Int} (h0 : 0 ≤ i) (h1 : i < n) (h2 : 0 ≤ j) (h3 : j < n) (e : ps.getD i.toNat 0 = ps.getD j.toNat 0) : i = j := by
  obtain ⟨hi, e1, _⟩ := perm_get hp h0 h1
  obtain ⟨hj, e2, _⟩ := perm_get hp h2 h3
  rw [e1, e2] at e
  have nd : ps.Nodup := hp.nodup_iff.mpr ((ints_sorted 0 n).imp fun h => by omega)
  have := (List.getElem_inj (h₀ := hi) (h₁ := hj) nd).mp e
  omega
theorem ren_ok {ps : List Int} {n : Int} (hp : ps.Perm (irng 0 n)) {t : Int × Int} (h : 0 ≤ t.1 ∧ t.1 < t.2 ∧ t.2 < n) : 0 ≤ (renP ps t).1 ∧ (renP ps t).1 < (renP ps t).2 ∧ (renP ps t).2 < n := by
  obtain ⟨_, e1, a1, a2⟩ := perm_get hp h.1 (by omega)
  obtain ⟨_, e2, b1, b2⟩ := perm_get hp (i := t.2) (by omega) h.2.2
  have ne : ps.getD t.1.toNat 0 ≠ ps.getD t.2.toNat 0 := fun e => by
    have := perm_inj hp h.1 (by omega) (by omega) h.2.2 e
    omega
  unfold renP
  rw [← e1] at a1 a2
  rw [← e2] at b1 b2
  simp only
  split <;> split <;> omega
theorem ren_inj {ps : List Int} {n : Int} (hp : ps.Perm (irng 0 n)) {t u : Int × Int} (h : 0 ≤ t.1 ∧ t.1 < t.2 ∧ t.2 < n) (h' : 0 ≤ u.1 ∧ u.1 < u.2 ∧ u.2 < n) (e : renP ps t = renP ps u) : t = u := by
  have i1 := fun z => perm_inj hp (i := t.1) (j := u.1) h.1 (by omega) h'.1 (by omega) z
  have i2 := fun z => perm_inj hp (i := t.2) (j := u.2) (by omega) h.2.2 (by omega) h'.2.2 z
  have i3 := fun z => perm_inj hp (i := t.1) (j := u.2) h.1 (by omega) (by omega) h'.2.2 z
  have i4 := fun z => perm_inj hp (i := t.2) (j := u.1) (by omega) h.2.2 h'.1 (by omega) z
  unfold renP at e
  simp only [Prod.mk.injEq] at e
  obtain ⟨e1, e2⟩ := e
  have key : (ps.getD t.1.toNat 0 = ps.getD u.1.toNat 0 ∧ ps.getD t.2.toNat 0 = ps.getD u.2.toNat 0) ∨ (ps.getD t.1.toNat 0 = ps.getD u.2.toNat 0 ∧ ps.getD t.2.toNat 0 = ps.getD u.1.toNat 0) := by
    split at e1 <;> split at e1 <;> split at e2 <;> split at e2 <;> omega
  rcases key with ⟨k1, k2⟩ | ⟨k1, k2⟩
  · exact Prod.ext (i1 k1) (i2 k2)
  · have := i3 k1; have := i4 k2; omega
theorem psort_strict {l : List (Int × Int)} (h : l.Nodup) : (psort l).Pairwise lexP := by
  have h1 := psort_sorted l
  have h2 : (psort l).Nodup := (psort_perm l).nodup_iff.mpr h
  have := List.Pairwise.and h1 (List.nodup_iff_pairwise_ne.mp h2)
  refine this.imp fun {a b} ⟨p, q⟩ => ?_
  unfold leP at p
  unfold lexP
  have : ¬ (a.1 = b.1 ∧ a.2 = b.2) := fun z => q (Prod.ext z.1 z.2)
  omega
theorem good.map {ps : List Int} {n : Int} (hp : ps.Perm (irng 0 n)) {ts : List (Int × Int)} (g : good n ts) : good n (ts.map (renP ps)) := by
  refine ⟨?_, fun t ht => ?_⟩
  · rw [List.nodup_iff_pairwise_ne, List.pairwise_map]
    exact (List.nodup_iff_pairwise_ne.mp g.nd).imp_of_mem fun ha hb h e => h (ren_inj hp (g.rg _ ha) (g.rg _ hb) e)
  · obtain ⟨u, hu, rfl⟩ := List.mem_map.mp ht
    exact ren_ok hp (g.rg u hu)
theorem good.web {n : Int} {ts : List (Int × Int)} (g : good n ts) (n1 : 1 ≤ n) (n9 : n ≤ 9) (hl : ts.length ≤ 20) : (Web.mk n (psort ts)).ok :=
  ⟨n1, n9, by rw [(psort_perm ts).length_eq]; exact hl, fun t ht => g.rg t ((psort_perm ts).mem_iff.mp ht), psort_strict g.nd⟩
/-- a row of names, whole or not -/
def S_l_renamed : FS := fun ds Post => ∃ (n : Int) (ts : List (Int × Int)) (ps : List Int) (N : D), ds = [.tuple [.int n, .tuple (ts.map dP)], N] ∧ tupOf N = some (ps.map .int) ∧ ps.Perm (irng 0 n) ∧ (∀ t ∈ ts, 0 ≤ t.1 ∧ t.1 < t.2 ∧ t.2 < n) ∧ Post (dW ⟨n, psort (ts.map (renP ps))⟩)
theorem m_l_renamed {rk : RK} : ∀ ds Post, S_l_renamed ds Post → wb_l_renamed { nx := fun _ => Post .none ∧ rk = .fz, rt := fun d _ => Post d } (startE 5 ds) := by
  rintro ds Post ⟨n, ts, ps, N, rfl, hN, hp, hrg, h⟩
  unfold wb_l_renamed startE
  simp [-Bool.exists_bool, -List.map_map, r_comp]
  refine compL_map (fun _ => true) (fun t => dP (renP ps t)) (fun t ht => ?_) ?_
  · have ht' := hrg t ht
    obtain ⟨k1, e1, _⟩ := perm_get hp ht'.1 (by omega)
    obtain ⟨k2, e2, _⟩ := perm_get hp (i := t.2) (by omega) ht'.2.2
    have gN : ∀ y, ixD N y = ixD (.tuple (ps.map .int)) y := fun y => by rcases tupOf_cases hN with rfl | rfl <;> cases y <;> rfl
    have g1 : ixD (.tuple (ps.map .int)) (.int t.1) = some (.int (ps.getD t.1.toNat 0)) := by
      have := ixD_t (xs := ps.map .int) (i := t.1.toNat) (x := .int (ps.getD t.1.toNat 0)) (by rw [List.getElem?_map, List.getElem?_eq_getElem k1, e1]; rfl)
      rwa [Int.toNat_of_nonneg (by omega)] at this
    have g2 : ixD (.tuple (ps.map .int)) (.int t.2) = some (.int (ps.getD t.2.toNat 0)) := by
      have := ixD_t (xs := ps.map .int) (i := t.2.toNat) (x := .int (ps.getD t.2.toNat 0)) (by rw [List.getElem?_map, List.getElem?_eq_getElem k2, e2]; rfl)
      rwa [Int.toNat_of_nonneg (by omega)] at this
    refine ⟨_, rfl, fun R hR => hR, fun _ R hR => ?_, rfl⟩
    simp [-Bool.exists_bool, -List.map_map, gN, g1, g2]
    exact hR
  · have e : ([] : List D) ++ (ts.filter fun _ => true).map (fun t => dP (renP ps t)) = (ts.map (renP ps)).map dP := by
      rw [List.nil_append, List.filter_eq_self.mpr (by simp), List.map_map]; rfl
    rw [e]
    simp [-Bool.exists_bool, -List.map_map]
    exact h
/-- _law_web(pool, most, cap): slots 0 pool:p, 1 most:r, 2 cap:r, 3 many:v, 4 pairs:v, 5 b:v, 6 way:v, 7 first:v, 8 size:v, 9 dense:v, 10 more:o, 11 a:v, 12 k:v, 13 pair:v; modes ['pl', 'rd', 'rd']; answer fz -/
def wb_l_webC (S_l_next : FS) (S_l_renamed : FS) (S_l_order : FS) : WS :=
  (wSeq (wAsg 3 (wOp2 addD (wC (.int 1)) (wCall S_l_next (waCons (wVar 0) (waCons (wVar 1) waNil)))))
    (wSeq (wAsg 4 (wList waNil))
    (wSeq (wFor (wiRg1 (wVar 3)) (gN 5) (wAsg 4 (wOp2 addD (wVar 4) (wComp (wiRg1 (wVar 5)) (gN 11) [11] G7.tYes (wTup (waCons (wVar 11) (waCons (wVar 5) waNil)))))))
    (wSeq (wAsg 6 (wCall S_l_next (waCons (wVar 0) (waCons (wC (.int 6)) waNil))))
    (wSeq (wAsg 7 (wList waNil))
    (wSeq (wIf (tAnd (tVal (wOp2 eqD (wVar 6) (wC (.int 0)))) (tVal (wOp2 gtD (wVar 3) (wC (.int 1))))) (wAsg 7 (wComp (wiRg2 (wC (.int 1)) (wVar 3)) (gN 5) [5] G7.tYes (wTup (waCons (wCall S_l_next (waCons (wVar 0) (waCons (wVar 5) waNil))) (waCons (wVar 5) waNil))))) wNil)
    (wSeq (wIf (tVal (wOp2 eqD (wVar 6) (wC (.int 1)))) (wAsg 7 (wComp (wiRg1 (wVar 3)) (gN 12) [12] (tVal (wOp2 gtD (wVar 3) (wC (.int 2)))) (wTup (waCons (wBlt min2D (waCons (wVar 12) (waCons (wOp2 modD (wOp2 addD (wVar 12) (wC (.int 1))) (wVar 3)) waNil))) (waCons (wBlt max2D (waCons (wVar 12) (waCons (wOp2 modD (wOp2 addD (wVar 12) (wC (.int 1))) (wVar 3)) waNil))) waNil))))) wNil)
    (wSeq (wIf (tVal (wOp2 eqD (wVar 6) (wC (.int 2)))) (wSeq (wAsg 8 (wOp2 addD (wC (.int 2)) (wCall S_l_next (waCons (wVar 0) (waCons (wC (.int 4)) waNil)))))
    (wAsg 7 (wComp (wiSeq (wVar 4)) (gN 13) [13] (tVal (wOp2 ltD (wOp2 ixD (wVar 13) (wC (.int 1))) (wVar 8))) (wVar 13)))) wNil)
    (wSeq (wAsg 9 (wOp2 ixD (wList (waCons (wC (.int 2)) (waCons (wC (.int 3)) (waCons (wC (.int 4)) (waCons (wC (.int 9)) waNil))))) (wCall S_l_next (waCons (wVar 0) (waCons (wC (.int 4)) waNil)))))
    (wSeq (wAsg 10 (wComp (wiSeq (wVar 4)) (gN 13) [13] (tAnd (tVal (wOp2 notInD (wVar 13) (wVar 7))) (tVal (wOp2 eqD (wCall S_l_next (waCons (wVar 0) (waCons (wVar 9) waNil))) (wC (.int 0))))) (wVar 13)))
    (wSeq (wWhile (tAnd (tVal (wOp2 gtD (wOp2 addD (wBlt lenD (waCons (wVar 7) waNil)) (wBlt lenD (waCons (wVar 10) waNil))) (wVar 2))) (tVal (wOp2 neD (wVar 10) (wList waNil)))) (wExpr (wMut 10 popAtF (waCons (wCall S_l_next (waCons (wVar 0) (waCons (wBlt lenD (waCons (wVar 10) waNil)) waNil))) waNil))))
    (wRet (wCall S_l_renamed (waCons (wTup (waCons (wVar 3) (waCons (wBlt tupD (waCons (wBlt sortedAD (waCons (wOp2 addD (wSl slD (wVar 7) woN (woS (wVar 2))) (wVar 10)) waNil)) waNil)) waNil))) (waCons (wCall S_l_order (waCons (wVar 0) (waCons (wVar 3) waNil))) waNil)))))))))))))))
theorem cut_to {xs : List D} {c : Int} (h : 0 ≤ c) : cut xs none (some c) = xs.take c.toNat := by
  obtain ⟨k, rfl⟩ : ∃ k : Nat, c = (k : Int) := ⟨c.toNat, by omega⟩
  unfold cut
  rw [HT.sIx_none, HT.sIx_nat]
  simp [List.take_eq_take_iff]
theorem slL_to {xs : List D} {c : Int} (h : 0 ≤ c) : slD (.list xs) none (some c) = some (.list (xs.take c.toNat)) := by simp only [slD, cut_to h]
theorem slT_to {xs : List D} {c : Int} (h : 0 ≤ c) : slD (.tuple xs) none (some c) = some (.tuple (xs.take c.toNat)) := by simp only [slD, cut_to h]
def S_l_webC : FS := fun ds Post => ∃ m c : Int, ds = [.none, .int m, .int c] ∧ 1 ≤ m ∧ m ≤ 9 ∧ 0 ≤ c ∧ c ≤ 20 ∧ ∀ w : Web, w.ok → w.n ≤ m → (w.ts.length : Int) ≤ c → Post (dW w)
theorem eqvL_dP (p : Int × Int) (ps : List (Int × Int)) [Decidable (p ∈ ps)] : notInD (dP p) (.list (ps.map dP)) = some (.bool (!decide (p ∈ ps))) := notInD_l eqv_dP lay_dP p ps
theorem m_l_webG (So : FS) (hSo : ∀ (n : Int) (Post : D → Prop), 0 ≤ n → n ≤ 1000 → (∀ (ps : List Int) (N : D), tupOf N = some (ps.map .int) → ps.Perm (irng 0 n) → Post N) → So [.none, .int n] Post) : ∀ ds Post, S_l_webC ds Post → wb_l_webC S_l_next S_l_renamed So { nx := fun _ => Post .none ∧ RK.fz = .fz, rt := fun d _ => Post d } (startE 14 ds) := by
  rintro ds Post ⟨m, c, rfl, m1, m9, c0, c20, h⟩
  unfold wb_l_webC startE
  refine seq_cut (fun e => ∃ n : Int, 1 ≤ n ∧ n ≤ m ∧ e = [some .none, some (.int m), some (.int c), some (.int n), none, none, none, none, none, none, none, none, none, none]) (fun R hR => ?_) ?_
  · simp [-Bool.exists_bool, -List.map_map]
    exact next_i (by omega) (by omega) fun r r0 r1 => ⟨_, rfl, hR _ ⟨1 + r, by omega, by omega, rfl⟩⟩
  rintro _ ⟨n, n1, hnm, rfl⟩
  refine seq_cut (fun e => e = [some .none, some (.int m), some (.int c), some (.int n), some (.list []), none, none, none, none, none, none, none, none, none]) (fun R hR => ?_) ?_
  · simp [-Bool.exists_bool, -List.map_map]
    exact hR _ rfl
  rintro _ rfl
  -- all pairs
  refine seq_cut (fun e => ∃ (ps : List (Int × Int)) (B A : Option D), e = [some .none, some (.int m), some (.int c), some (.int n), some (.list (ps.map dP)), B, none, none, none, none, none, A, none, none] ∧ good n ps ∧ ps.length ≤ 81) (fun R0 hR0 => ?_) ?_
  · simp [-Bool.exists_bool, -List.map_map]
    refine ⟨by omega, by omega, ?_⟩
    refine forL_inv (fun i e => ∃ (ps : List (Int × Int)) (B A : Option D), e = [some .none, some (.int m), some (.int c), some (.int n), some (.list (ps.map dP)), B, none, none, none, none, none, A, none, none] ∧ good n ps ∧ (∀ t ∈ ps, t.2 < (i : Int)) ∧ ps.length ≤ 9 * i) ⟨[], none, none, rfl, ⟨.nil, by simp⟩, by simp, by simp⟩ ?_ ?_
    · rintro i e x R hx ⟨ps, B, A, rfl, g, hb, hl⟩ hR
      obtain ⟨rfl, hi, _⟩ := irng_at hx
      refine ⟨_, rfl, ?_⟩
      simp [-Bool.exists_bool, -List.map_map, r_comp]
      refine ⟨by omega, ?_⟩
      rw [rangeD_ints]
      refine compL_map (fun _ => true) (fun a => dP (a, (i : Int))) (fun a _ => by simp [-Bool.exists_bool, -List.map_map, dP]) ?_
      have e0 : ([] : List D) ++ ((irng 0 (i : Int)).filter fun _ => true).map (fun a => dP (a, (i : Int))) = ((irng 0 (i : Int)).map fun a => (a, (i : Int))).map dP := by
        rw [List.nil_append, List.filter_eq_self.mpr (by simp), List.map_map]; rfl
      rw [e0]
      have hlr : ((irng 0 (i : Int)).map fun a => (a, (i : Int))).length = i := by rw [List.length_map, ints_len]; omega
      simp [-Bool.exists_bool, -List.map_map]
      rw [addD_l (by rw [List.length_map, List.length_map, hlr]; omega)]
      refine ⟨_, rfl, hR _ ⟨ps ++ (irng 0 (i : Int)).map fun a => (a, (i : Int)), _, _, by rw [List.map_append], ⟨?_, ?_⟩, ?_, by rw [List.length_append, hlr]; omega⟩⟩
      · rw [List.nodup_append]
        refine ⟨g.nd, ?_, ?_⟩
        · rw [List.nodup_iff_pairwise_ne, List.pairwise_map]
          exact (ints_sorted 0 (i : Int)).imp fun {a b} h e => by injection e with e _; omega
        · intro a ha b hb' e
          subst e
          obtain ⟨z, _, rfl⟩ := List.mem_map.mp hb'
          have := hb _ ha
          simp at this
      · intro t ht
        rcases List.mem_append.mp ht with ht | ht
        · exact g.rg t ht
        · obtain ⟨z, hz, rfl⟩ := List.mem_map.mp ht
          have := mem_ints.mp hz
          simp only
          omega
      · intro t ht
        rcases List.mem_append.mp ht with ht | ht
        · have := hb t ht; omega
        · obtain ⟨z, hz, rfl⟩ := List.mem_map.mp ht
          simp only
          omega
    · rintro _ ⟨ps, B, A, rfl, g, hb, hl⟩
      rw [rangeD_ints, List.length_map, ints_len] at hl
      exact hR0 _ ⟨ps, B, A, rfl, g, by omega⟩
  rintro _ ⟨ps, B, A, rfl, g, hl81⟩
  -- which way
  refine seq_cut (fun e => ∃ (y : Int), e = [some .none, some (.int m), some (.int c), some (.int n), some (.list (ps.map dP)), B, some (.int y), none, none, none, none, A, none, none]) (fun R hR => ?_) ?_
  · simp [-Bool.exists_bool, -List.map_map]
    exact next_i (by omega) (by omega) fun r r0 r1 => hR _ ⟨r, rfl⟩
  rintro _ ⟨y, rfl⟩
  let F : En → Prop := fun e => ∃ (fs : List (Int × Int)) (B Z A : Option D), e = [some .none, some (.int m), some (.int c), some (.int n), some (.list (ps.map dP)), B, some (.int y), some (.list (fs.map dP)), Z, none, none, A, none, none] ∧ good n fs ∧ fs.length ≤ 81
  refine seq_cut F (fun R hR => ?_) ?_
  · simp [-Bool.exists_bool, -List.map_map]
    exact hR _ ⟨[], B, none, A, rfl, ⟨.nil, by simp⟩, by simp⟩
  clear B A
  rintro _ ⟨fs, B, Z, A, rfl, gf, hf⟩
  -- a tree
  refine seq_cut F (fun R hR => ?_) ?_
  · have keep : R [some .none, some (.int m), some (.int c), some (.int n), some (.list (ps.map dP)), B, some (.int y), some (.list (fs.map dP)), Z, none, none, A, none, none] := hR _ ⟨fs, B, Z, A, rfl, gf, hf⟩
    simp [-Bool.exists_bool, -List.map_map, r_comp]
    split
    · split
      · refine ⟨by omega, by omega, ?_⟩
        refine compL_inv (fun i acc e => e = [some .none, some (.int m), some (.int c), some (.int n), some (.list (ps.map dP)), none, some (.int y), some (.list (fs.map dP)), Z, none, none, A, none, none] ∧ ∃ qs : List (Int × Int), acc = qs.map dP ∧ good n qs ∧ (∀ t ∈ qs, t.2 < (i : Int) + 1) ∧ qs.length = i) ⟨rfl, [], rfl, ⟨.nil, by simp⟩, by simp, rfl⟩ ?_ ?_
        · rintro i x acc e hx ⟨rfl, qs, rfl, gq, hb, hl⟩
          obtain ⟨rfl, hi, _⟩ := irng_at hx
          refine ⟨_, rfl, fun R hR => ?_⟩
          simp [-Bool.exists_bool, -List.map_map]
          refine next_i (by omega) (by omega) fun r r0 r1 => ?_
          have := hR (qs.map dP ++ [dP (r, 1 + (i : Int))]) _ ⟨rfl, qs ++ [(r, 1 + (i : Int))], by simp, ⟨?_, ?_⟩, ?_, by simp [hl]⟩
          · simpa [dP] using this
          · rw [List.nodup_append]
            refine ⟨gq.nd, by simp, fun a ha b hb' e => ?_⟩
            simp at hb'; subst hb'; subst e
            have := hb _ ha; simp at this; omega
          · intro t ht
            rcases List.mem_append.mp ht with ht | ht
            · exact gq.rg t ht
            · simp at ht; subst ht; simp only; omega
          · intro t ht
            rcases List.mem_append.mp ht with ht | ht
            · have := hb t ht; omega
            · simp at ht; subst ht; simp only; omega
        · rintro acc e ⟨rfl, qs, rfl, gq, hb, hl⟩
          rw [rangeD_ints, List.length_map, ints_len] at hl
          exact hR _ ⟨qs, B, Z, A, rfl, gq, by omega⟩
      · exact keep
    · exact keep
  clear gf hf B Z A fs
  rintro _ ⟨fs, B, Z, A, rfl, gf, hf⟩
  -- a ring
  refine seq_cut F (fun R hR => ?_) ?_
  · have keep : R [some .none, some (.int m), some (.int c), some (.int n), some (.list (ps.map dP)), B, some (.int y), some (.list (fs.map dP)), Z, none, none, A, none, none] := hR _ ⟨fs, B, Z, A, rfl, gf, hf⟩
    simp [-Bool.exists_bool, -List.map_map, r_comp]
    split
    · refine ⟨by omega, by omega, ?_⟩
      rw [rangeD_ints]
      refine compL_map (fun _ => decide (2 < n)) (fun k => dP (if (k + 1) % n < k then (k + 1) % n else k, if (k + 1) % n > k then (k + 1) % n else k)) (fun k hk => ?_) ?_
      · refine ⟨_, rfl, fun R hR => ?_, fun _ R hR => ?_, rfl⟩
        · simp [-Bool.exists_bool, -List.map_map]
          exact hR
        · have hm : modD (.int (k + 1)) (.int n) = some (.int ((k + 1) % n)) := modD_i (by omega)
          simp [-Bool.exists_bool, -List.map_map, hm]
          simpa [dP] using hR
      · have e0 : ([] : List D) ++ ((irng 0 n).filter fun _ => decide (2 < n)).map (fun k => dP (if (k + 1) % n < k then (k + 1) % n else k, if (k + 1) % n > k then (k + 1) % n else k)) = (((irng 0 n).filter fun _ => decide (2 < n)).map fun k => (if (k + 1) % n < k then (k + 1) % n else k, if (k + 1) % n > k then (k + 1) % n else k)).map dP := by
          rw [List.nil_append, List.map_map]; rfl
        rw [e0]
        simp [-Bool.exists_bool, -List.map_map]
        have md : ∀ k ∈ irng 0 n, 2 < n → (k + 1 < n ∧ (k + 1) % n = k + 1) ∨ (k + 1 = n ∧ (k + 1) % n = 0) := fun k hk h2 => by
          have := mem_ints.mp hk
          by_cases h : k + 1 < n
          · exact .inl ⟨h, Int.emod_eq_of_lt (by omega) h⟩
          · have e : k + 1 = n := by omega
            exact .inr ⟨e, by rw [e]; exact Int.emod_self⟩
        refine hR _ ⟨_, _, _, _, rfl, ⟨?_, ?_⟩, ?_⟩
        · rw [List.nodup_iff_pairwise_ne, List.pairwise_map]
          refine ((ints_sorted 0 n).filter _).imp_of_mem fun {a b} ha hb hlt e => ?_
          have h2 : 2 < n := by simpa using (List.mem_filter.mp ha).2
          have ha' := (List.mem_filter.mp ha).1
          have hb' := (List.mem_filter.mp hb).1
          have ra := mem_ints.mp ha'
          have rb := mem_ints.mp hb'
          simp only [Prod.mk.injEq] at e
          obtain ⟨e1, e2⟩ := e
          rcases md a ha' h2 with ⟨q1, q2⟩ | ⟨q1, q2⟩ <;> rcases md b hb' h2 with ⟨q3, q4⟩ | ⟨q3, q4⟩ <;> rw [q2, q4] at e1 e2 <;> split at e1 <;> split at e1 <;> split at e2 <;> split at e2 <;> omega
        · intro t ht
          obtain ⟨k, hk, rfl⟩ := List.mem_map.mp ht
          have h2 : 2 < n := by simpa using (List.mem_filter.mp hk).2
          have hk' := (List.mem_filter.mp hk).1
          have rk := mem_ints.mp hk'
          simp only
          rcases md k hk' h2 with ⟨q1, q2⟩ | ⟨q1, q2⟩ <;> rw [q2] <;> split <;> split <;> omega
        · rw [List.length_map]
          have := List.length_filter_le (fun _ => decide (2 < n)) (irng 0 n)
          rw [ints_len] at this
          omega
    · exact keep
  clear gf hf B Z A fs
  rintro _ ⟨fs, B, Z, A, rfl, gf, hf⟩
  -- a crowd
  refine seq_cut F (fun R hR => ?_) ?_
  · have keep : R [some .none, some (.int m), some (.int c), some (.int n), some (.list (ps.map dP)), B, some (.int y), some (.list (fs.map dP)), Z, none, none, A, none, none] := hR _ ⟨fs, B, Z, A, rfl, gf, hf⟩
    simp [-Bool.exists_bool, -List.map_map, r_comp]
    split
    · refine next_i (by omega) (by omega) fun r r0 r1 => ?_
      simp [-Bool.exists_bool, -List.map_map]
      refine compL_map (fun t => decide (t.2 < 2 + r)) (fun t => dP t) (fun t ht => ?_) ?_
      · refine ⟨_, rfl, fun R hR => ?_, fun _ R hR => ?_, rfl⟩
        · simp [-Bool.exists_bool, -List.map_map, dP]
          exact hR
        · simpa [-Bool.exists_bool, -List.map_map] using hR
      · rw [List.nil_append]
        simp [-Bool.exists_bool, -List.map_map]
        refine hR _ ⟨_, _, _, _, rfl, ⟨g.nd.filter _, fun t ht => g.rg t (List.mem_filter.mp ht).1⟩, Nat.le_trans (List.length_filter_le _ _) hl81⟩
    · exact keep
  clear gf hf B Z A fs
  rintro _ ⟨fs, B, Z, A, rfl, gf, hf⟩
  -- how dense
  refine seq_cut (fun e => ∃ d : Int, 0 < d ∧ d < 100 ∧ e = [some .none, some (.int m), some (.int c), some (.int n), some (.list (ps.map dP)), B, some (.int y), some (.list (fs.map dP)), Z, some (.int d), none, A, none, none]) (fun R hR => ?_) ?_
  · simp [-Bool.exists_bool, -List.map_map]
    refine next_i (by omega) (by omega) fun r r0 r1 => ?_
    obtain ⟨k, rfl⟩ : ∃ k : Nat, r = (k : Int) := ⟨r.toNat, by omega⟩
    have hk : k < 4 := by omega
    match k, hk with
    | 0, _ => exact ⟨_, rfl, hR _ ⟨2, by omega, by omega, rfl⟩⟩
    | 1, _ => exact ⟨_, rfl, hR _ ⟨3, by omega, by omega, rfl⟩⟩
    | 2, _ => exact ⟨_, rfl, hR _ ⟨4, by omega, by omega, rfl⟩⟩
    | 3, _ => exact ⟨_, rfl, hR _ ⟨9, by omega, by omega, rfl⟩⟩
  rintro _ ⟨d, d0, d1, rfl⟩
  -- some more
  let G : List (Int × Int) → Prop := fun ms => good n ms ∧ ms.length ≤ 81 ∧ ∀ t ∈ ms, t ∉ fs
  refine seq_cut (fun e => ∃ ms : List (Int × Int), G ms ∧ e = [some .none, some (.int m), some (.int c), some (.int n), some (.list (ps.map dP)), B, some (.int y), some (.list (fs.map dP)), Z, some (.int d), some (.list (ms.map dP)), A, none, none]) (fun R hR => ?_) ?_
  · simp [-Bool.exists_bool, -List.map_map, r_comp]
    refine compL_inv (fun i acc e => e = [some .none, some (.int m), some (.int c), some (.int n), some (.list (ps.map dP)), B, some (.int y), some (.list (fs.map dP)), Z, some (.int d), none, A, none, none] ∧ ∃ ms : List (Int × Int), acc = ms.map dP ∧ ms.Nodup ∧ (∀ t ∈ ms, t ∈ ps.take i ∧ t ∉ fs) ∧ ms.length ≤ i) ⟨rfl, [], rfl, .nil, by simp, by simp⟩ ?_ ?_
    · rintro i x acc e hx ⟨rfl, ms, rfl, nd, hm, hl⟩
      obtain ⟨t, ht, rfl⟩ : ∃ t, ps[i]? = some t ∧ dP t = x := by
        rw [List.getElem?_map] at hx
        simpa using hx
      refine ⟨_, rfl, fun R hR => ?_⟩
      have wider : ∀ u ∈ ms, u ∈ ps.take (i + 1) ∧ u ∉ fs := fun u hu => ⟨by rw [List.take_succ]; exact List.mem_append_left _ (hm u hu).1, (hm u hu).2⟩
      have same : R (ms.map dP) [some .none, some (.int m), some (.int c), some (.int n), some (.list (ps.map dP)), B, some (.int y), some (.list (fs.map dP)), Z, some (.int d), none, A, none, none] := hR _ _ ⟨rfl, ms, rfl, nd, wider, by omega⟩
      simp [-Bool.exists_bool, -List.map_map]
      rw [eqvL_dP]
      refine ⟨_, rfl, _, rfl, ?_⟩
      by_cases hfm : t ∈ fs
      · simp [-Bool.exists_bool, -List.map_map, hfm]
        exact same
      · simp [-Bool.exists_bool, -List.map_map, hfm]
        refine next_i (by omega) (by omega) fun r r0 r1 => ?_
        simp [-Bool.exists_bool, -List.map_map]
        split
        · have := hR ((ms ++ [t]).map dP) _ ⟨rfl, ms ++ [t], rfl, ?_, ?_, by simp; omega⟩
          · simpa using this
          · rw [List.nodup_append]
            refine ⟨nd, by simp, fun a ha b hb e => ?_⟩
            simp at hb; subst hb; subst e
            have h1 := (hm _ ha).1
            obtain ⟨j, hj, e⟩ := List.getElem_of_mem h1
            rw [List.getElem_take] at e
            obtain ⟨hi, e2⟩ := List.getElem?_eq_some_iff.mp ht
            rw [List.length_take] at hj
            have := (List.getElem_inj (h₀ := by omega) (h₁ := hi) g.nd).mp (e.trans e2.symm)
            omega
          · intro u hu
            rcases List.mem_append.mp hu with hu | hu
            · exact wider u hu
            · simp at hu; subst hu
              refine ⟨?_, hfm⟩
              rw [List.take_succ, ht]; simp
        · exact same
    · rintro acc e ⟨rfl, ms, rfl, nd, hm, hl⟩
      rw [List.length_map] at hl
      refine hR _ ⟨ms, ⟨⟨nd, fun t ht => g.rg t ?_⟩, by omega, fun t ht => (hm t ht).2⟩, rfl⟩
      exact List.mem_of_mem_take (hm t ht).1
  rintro _ ⟨ms, gm, rfl⟩
  -- not too many
  refine seq_cut (fun e => ∃ ms : List (Int × Int), G ms ∧ ((fs.length : Int) + ms.length ≤ c ∨ ms = []) ∧ e = [some .none, some (.int m), some (.int c), some (.int n), some (.list (ps.map dP)), B, some (.int y), some (.list (fs.map dP)), Z, some (.int d), some (.list (ms.map dP)), A, none, none]) (fun R hR => ?_) ?_
  · refine whileN_inv (fun e => ∃ ms : List (Int × Int), G ms ∧ e = [some .none, some (.int m), some (.int c), some (.int n), some (.list (ps.map dP)), B, some (.int y), some (.list (fs.map dP)), Z, some (.int d), some (.list (ms.map dP)), A, none, none]) (fun e => match e[10]? with | some (some (PyData.list xs)) => xs.length | _ => 0) ?_ ⟨ms, gm, rfl⟩
    clear gm ms
    rintro e R1 ⟨ms, gm, rfl⟩ hR1
    have hne : neD (.list (ms.map dP)) (.list []) = some (.bool (!decide (ms = []))) := by
      have h1 : lay 2 (.list (ms.map dP)) := lay_lst (lay_map lay_dP ms)
      have h2 : lay 2 (.list []) := lay_lst (by simp)
      rw [neD_lay h1 h2]
      have := eqv_lst eqv_dP ms []
      simp only [List.map_nil] at this
      rw [this]
    simp [-Bool.exists_bool, -List.map_map, -List.map_eq_nil_iff, hne]
    split
    · by_cases hm : ms = []
      · simp [-Bool.exists_bool, -List.map_map, hm]
        exact hR _ ⟨[], by rw [← hm]; exact gm, .inr rfl, by rfl⟩
      · simp [-Bool.exists_bool, -List.map_map, hm]
        have hpos : 0 < ms.length := List.length_pos_iff.mpr hm
        have h81 := gm.2.1
        refine next_i (by omega) (by omega) fun r r0 r1 => ?_
        obtain ⟨k, rfl⟩ : ∃ k : Nat, r = (k : Int) := ⟨r.toNat, by omega⟩
        have hk : k < ms.length := by omega
        rw [popAtF_ok (y := dP ms[k]) (by rw [List.getElem?_map, List.getElem?_eq_getElem hk]; rfl)]
        have hsub : ∀ t ∈ ms.eraseIdx k, t ∈ ms := fun t ht => (List.eraseIdx_sublist _ _).mem ht
        refine ⟨_, _, rfl, hR1 _ ⟨ms.eraseIdx k, ⟨⟨gm.1.nd.sublist (List.eraseIdx_sublist _ _), fun t ht => gm.1.rg t (hsub t ht)⟩, ?_, fun t ht => gm.2.2 t (hsub t ht)⟩, by rw [map_erase]⟩ ?_⟩
        · have := List.length_eraseIdx_of_lt hk; omega
        · have := List.length_eraseIdx_of_lt hk
          simp [map_erase]
          omega
    · rename_i hle
      exact hR _ ⟨ms, gm, .inl (by omega), rfl⟩
  clear gm ms
  rintro _ ⟨ms, gm, hc, rfl⟩
  obtain ⟨gm, h81, hdis⟩ := gm
  have hcut : slD (.list (fs.map dP)) none (some c) = some (.list ((fs.take c.toNat).map dP)) := by
    rw [slL_to c0, List.map_take]
  simp [-Bool.exists_bool, -List.map_map, hcut]
  rw [addD_l (by simp; omega)]
  refine ⟨_, rfl, ?_⟩
  have em : List.take c.toNat (fs.map dP) ++ ms.map dP = (fs.take c.toNat ++ ms).map dP := by rw [List.map_append, List.map_take]
  rw [em]
  have gall : good n (fs.take c.toNat ++ ms) := by
    refine ⟨?_, fun t ht => ?_⟩
    · rw [List.nodup_append]
      exact ⟨gf.nd.sublist (List.take_sublist _ _), gm.nd, fun a ha b hb e => hdis b hb (by rw [← e]; exact List.mem_of_mem_take ha)⟩
    · rcases List.mem_append.mp ht with ht | ht
      · exact gf.rg t (List.mem_of_mem_take ht)
      · exact gm.rg t ht
  have hlen : ((fs.take c.toNat ++ ms).length : Int) ≤ c := by
    rw [List.length_append, List.length_take]
    rcases hc with hc | hc
    · omega
    · subst hc; simp; omega
  refine ⟨_, sortedAD_p _, _, rfl, hSo n _ (by omega) (by omega) fun nm N hN hp => ?_⟩
  refine ⟨n, psort (fs.take c.toNat ++ ms), nm, _, rfl, hN, hp, fun t ht => gall.rg t ((psort_perm _).mem_iff.mp ht), ?_⟩
  have g2 : good n (psort (fs.take c.toNat ++ ms)) := ⟨(psort_perm _).nodup_iff.mpr gall.nd, fun t ht => gall.rg t ((psort_perm _).mem_iff.mp ht)⟩
  have g3 := g2.map hp
  have hl3 : (((psort (fs.take c.toNat ++ ms)).map (renP nm)).length : Int) ≤ c := by
    rw [List.length_map, (psort_perm _).length_eq]; exact hlen
  refine h _ (g3.web n1 (by omega) (by omega)) hnm ?_
  show (((psort ((psort (fs.take c.toNat ++ ms)).map (renP nm))).length : Nat) : Int) ≤ c
  rw [(psort_perm _).length_eq]; exact hl3
theorem m_l_webC {rk : RK} : ∀ ds Post, S_l_webC ds Post → wb_l_webC S_l_next S_l_renamed S_l_orderC { nx := fun _ => Post .none ∧ rk = .fz, rt := fun d _ => Post d } (startE 14 ds) :=
  m_l_webG S_l_orderC fun n Post h0 h1 h => ⟨n, rfl, h0, h1, fun ps hp => h ps _ rfl hp⟩
/-- _law_order, a tuple of which not all is known -/
def wb_l_order (S_l_next : FS) : WS :=
  (wSeq (wAsg 2 (wLstRg (wiRg1 (wVar 1))))
    (wRet (wBlt tupD (waCons (wComp (wiRg1 (wVar 1)) (gN 3) [3] G7.tYes (wMut 2 popAtF (waCons (wCall S_l_next (waCons (wVar 0) (waCons (wBlt lenD (waCons (wVar 2) waNil)) waNil))) waNil))) waNil))))
def S_l_order : FS := fun ds Post => ∃ n : Int, ds = [.none, .int n] ∧ 0 ≤ n ∧ n ≤ 1000 ∧ ∀ ps : List Int, ps.Perm (irng 0 n) → Post (.tuple (ps.map .int))
theorem m_l_order {rk : RK} : ∀ ds Post, S_l_order ds Post → wb_l_order S_l_next { nx := fun _ => Post .none ∧ rk = .fz, rt := fun d _ => Post d } (startE 4 ds) := by
  rintro ds Post ⟨n, rfl, h0, h1, h⟩
  unfold wb_l_order startE
  simp [-Bool.exists_bool, -List.map_map, r_comp]
  refine ⟨by omega, by omega, by omega, by omega, ?_⟩
  refine compL_inv (fun i acc e => ∃ ts ls : List Int, e = [some .none, some (.int n), some (.list (ls.map .int)), none] ∧ acc = ts.map .int ∧ ts.length = i ∧ (ts ++ ls).Perm (irng 0 n)) ⟨[], irng 0 n, by rw [rangeD_ints], rfl, rfl, List.Perm.refl _⟩ ?_ ?_
  · rintro i x acc e hx ⟨ts, ls, rfl, rfl, hl, hp⟩
    obtain ⟨rfl, hi, _⟩ := irng_at hx
    have hlen := hp.length_eq
    rw [List.length_append, ints_len] at hlen
    refine ⟨_, rfl, fun R hR => ?_⟩
    simp [-Bool.exists_bool, -List.map_map]
    refine next_i (by omega) (by omega) fun r r0 r1 => ?_
    obtain ⟨k, rfl⟩ : ∃ k : Nat, r = (k : Int) := ⟨r.toNat, by omega⟩
    have hk : k < ls.length := by omega
    rw [popAtF_ok (y := .int ls[k]) (by rw [List.getElem?_map, List.getElem?_eq_getElem hk]; rfl)]
    refine ⟨_, _, rfl, ?_⟩
    have := hR (ts.map .int ++ [.int ls[k]]) _ ⟨ts ++ [ls[k]], ls.eraseIdx k, rfl, by simp, by simp [hl], ?_⟩
    · simpa [map_erase] using this
    · refine List.Perm.trans ?_ hp
      rw [List.append_assoc]
      refine List.Perm.append_left _ ?_
      exact erase_perm hk
  · rintro acc e ⟨ts, ls, rfl, rfl, hl, hp⟩
    have hlen := hp.length_eq
    rw [List.length_append, ints_len] at hlen
    rw [rangeD_ints, List.length_map, ints_len] at hl
    have : ls = [] := List.eq_nil_of_length_eq_zero (by omega)
    subst this
    exact h ts (by simpa using hp)
theorem m_l_webT {rk : RK} : ∀ ds Post, S_l_webC ds Post → wb_l_webC S_l_next S_l_renamed S_l_order { nx := fun _ => Post .none ∧ rk = .fz, rt := fun d _ => Post d } (startE 14 ds) :=
  m_l_webG S_l_order fun n Post h0 h1 h => ⟨n, rfl, h0, h1, fun ps hp => h ps _ rfl hp⟩
end Lib
end G7

/-! arrows without a round, orders of them, heights -/
namespace G7
namespace Lib
open PySem
theorem dW_0 (w : Web) : ixD (dW w) (.int 0) = some (.int w.n) := rfl
theorem dW_1 (w : Web) : ixD (dW w) (.int 1) = some (TP w.ts) := rfl
theorem step_dedup_eq (ks : List Int) (a : Int) : PyProof.Rows.step_dedup ks a = if a ∈ ks then ks else ks ++ [a] := by
  unfold PyProof.Rows.step_dedup
  have : (ks.any (· == a)) = decide (a ∈ ks) := by
    rw [Bool.eq_iff_iff]; simp
  rw [this]; simp
theorem dedup_go : ∀ (l acc : List Int), acc.Nodup → (l.foldl PyProof.Rows.step_dedup acc).Nodup ∧ ∀ x, x ∈ l.foldl PyProof.Rows.step_dedup acc ↔ x ∈ acc ∨ x ∈ l
  | [], acc, h => ⟨h, by simp⟩
  | a :: l, acc, h => by
    rw [List.foldl_cons, step_dedup_eq]
    by_cases c : a ∈ acc
    · rw [if_pos c]
      obtain ⟨h1, h2⟩ := dedup_go l acc h
      refine ⟨h1, fun x => ?_⟩
      rw [h2, List.mem_cons]
      constructor
      · rintro (h | h) <;> simp [h]
      · rintro (h | rfl | h)
        · exact .inl h
        · exact .inl c
        · exact .inr h
    · rw [if_neg c]
      obtain ⟨h1, h2⟩ := dedup_go l (acc ++ [a]) (by
        rw [List.nodup_append]
        refine ⟨h, by simp, fun x hx y hy => ?_⟩
        simp at hy; subst hy
        rintro rfl; exact c hx)
      refine ⟨h1, fun x => ?_⟩
      rw [h2, List.mem_append, List.mem_singleton, List.mem_cons, or_assoc]
theorem mem_dedup {l : List Int} {x : Int} : x ∈ dedup l ↔ x ∈ l := by
  unfold dedup
  rw [(dedup_go l [] List.nodup_nil).2]; simp
theorem nodup_dedup (l : List Int) : (dedup l).Nodup := (dedup_go l [] List.nodup_nil).1
abbrev Ar := List (Int × Int)
theorem min_by {α : Type} (f : α → Int) : ∀ {l : List α}, l ≠ [] → ∃ x ∈ l, ∀ y ∈ l, f x ≤ f y
  | [], h => absurd rfl h
  | [x], _ => ⟨x, by simp, by simp⟩
  | x :: y :: l, _ => by
    obtain ⟨z, hz, h⟩ := min_by f (l := y :: l) (by simp)
    by_cases c : f x ≤ f z
    · refine ⟨x, by simp, fun u hu => ?_⟩
      rcases List.mem_cons.mp hu with rfl | hu
      · omega
      · have := h u hu; omega
    · refine ⟨z, List.mem_cons_of_mem _ hz, fun u hu => ?_⟩
      rcases List.mem_cons.mp hu with rfl | hu
      · omega
      · exact h u hu
/-- a rank that rises along each arrow -/
def Acyc (ls : Ar) : Prop := ∃ h : Int → Int, ∀ t ∈ ls, h t.1 < h t.2
theorem Acyc.sub {ls ms : Ar} (h : Acyc ls) (s : ∀ t ∈ ms, t ∈ ls) : Acyc ms := by
  obtain ⟨f, h⟩ := h
  exact ⟨f, fun t ht => h t (s t ht)⟩
theorem Acyc.stuck {ls : Ar} (h : Acyc ls) {l : List Int} (ne : l ≠ []) : ∃ p ∈ l, ∀ a ∈ l, (a, p) ∉ ls := by
  obtain ⟨f, h⟩ := h
  obtain ⟨p, hp, hm⟩ := min_by f ne
  refine ⟨p, hp, fun a ha c => ?_⟩
  have := h _ c
  have := hm a ha
  simp only at *
  omega
/-- an order by which all arrows lead on -/
structure Topo (ls : Ar) (o : List Int) : Prop where
  nd : o.Nodup
  pr : ∀ xs p ys, o = xs ++ p :: ys → ∀ a, (a, p) ∈ ls → a ∈ xs
theorem Topo.nil {ls : Ar} : Topo ls [] := ⟨List.nodup_nil, fun xs p ys h => by simp at h⟩
theorem split_last {α : Type} {o xs ys : List α} {p q : α} (h : o ++ [q] = xs ++ p :: ys) : (ys = [] ∧ xs = o ∧ p = q) ∨ ∃ zs, ys = zs ++ [q] ∧ o = xs ++ p :: zs := by
  rcases List.eq_nil_or_concat ys with rfl | ⟨zs, z, rfl⟩
  · left
    have := List.append_inj' h (by simp)
    simp at this
    exact ⟨rfl, this.1.symm, this.2.symm⟩
  · right
    simp only [List.concat_eq_append] at h ⊢
    have h2 : o ++ [q] = (xs ++ p :: zs) ++ [z] := by rw [h]; simp
    have := List.append_inj' h2 (by simp)
    simp at this
    exact ⟨zs, by rw [this.2], this.1⟩
theorem Topo.snoc {ls : Ar} {o : List Int} {q : Int} (h : Topo ls o) (n : q ∉ o) (hp : ∀ a, (a, q) ∈ ls → a ∈ o) : Topo ls (o ++ [q]) := by
  refine ⟨?_, fun xs p ys e a ha => ?_⟩
  · rw [List.nodup_append]
    refine ⟨h.nd, by simp, fun a ha b hb => ?_⟩
    simp at hb; subst hb
    rintro rfl
    exact n ha
  · rcases split_last e with ⟨_, rfl, rfl⟩ | ⟨zs, _, e⟩
    · exact hp a ha
    · exact h.pr xs p zs e a ha
theorem Topo.app {ls : Ar} {o : List Int} (h : Topo ls o) : ∀ {r : List Int}, r.Nodup → (∀ q ∈ r, q ∉ o) → (∀ q ∈ r, ∀ a, (a, q) ∈ ls → a ∈ o) → Topo ls (o ++ r)
  | [], _, _, _ => by simpa using h
  | q :: r, nd, n, hp => by
    rw [show o ++ q :: r = (o ++ [q]) ++ r by simp]
    rw [List.nodup_cons] at nd
    refine Topo.app (h.snoc (n q (by simp)) (hp q (by simp))) nd.2 (fun x hx c => ?_) fun x hx a ha => ?_
    · simp at c
      rcases c with c | rfl
      · exact n x (by simp [hx]) c
      · exact nd.1 hx
    · simp [hp x (by simp [hx]) a ha]
theorem idx_split {xs ys : List Int} {p : Int} (n : p ∉ xs) : (xs ++ p :: ys).idxOf p = xs.length := by
  rw [List.idxOf_append, if_neg n]; simp
theorem Topo.idx {ls : Ar} {o : List Int} (h : Topo ls o) {a p : Int} (hp : p ∈ o) (ha : (a, p) ∈ ls) : o.idxOf a < o.idxOf p := by
  obtain ⟨xs, ys, e⟩ := List.append_of_mem hp
  have hm := h.pr xs p ys e a ha
  have np : p ∉ xs := fun c => by
    have := h.nd
    rw [e, List.nodup_append] at this
    exact this.2.2 _ c _ (by simp) rfl
  rw [e, idx_split np, List.idxOf_append, if_pos hm]
  exact List.idxOf_lt_length_of_mem hm
theorem Topo.acyc {ls : Ar} {o : List Int} (h : Topo ls o) (hm : ∀ t ∈ ls, t.2 ∈ o) : Acyc ls :=
  ⟨fun p => (o.idxOf p : Int), fun t ht => by have := h.idx (hm t ht) ht; simp only; omega⟩
/-- heights: of the places P the most steps of ways to them -/
structure IsH (ls : Ar) (P : Int → Prop) (h : Int → Int) : Prop where
  nn : ∀ p, P p → 0 ≤ h p
  up : ∀ a p, (a, p) ∈ ls → P p → h a < h p
  at' : ∀ p, P p → h p = 0 ∨ ∃ a, (a, p) ∈ ls ∧ h a = h p - 1
theorem IsH.least {ls : Ar} {P : Int → Prop} {h g : Int → Int} (i : IsH ls P h) (hP : ∀ t ∈ ls, P t.1 ∧ P t.2) (g0 : ∀ p, P p → 0 ≤ g p) (gu : ∀ a p, (a, p) ∈ ls → g a < g p) {p : Int} (hp : P p) : h p ≤ g p := by
  have key : ∀ (n : Nat) (p : Int), P p → h p ≤ n → h p ≤ g p := by
    intro n
    induction n with
    | zero => intro p hp hn; have := g0 p hp; omega
    | succ n ih =>
      intro p hp hn
      rcases i.at' p hp with e | ⟨a, ha, e⟩
      · have := g0 p hp; omega
      · have := ih a (hP _ ha).1 (by omega)
        have := gu a p ha
        omega
  exact key (h p).toNat p hp (by omega)
theorem IsH.one {ls : Ar} {P : Int → Prop} {h g : Int → Int} (i : IsH ls P h) (j : IsH ls P g) (hP : ∀ t ∈ ls, P t.1 ∧ P t.2) {p : Int} (hp : P p) : h p = g p :=
  Int.le_antisymm (i.least hP j.nn (fun a p ha => j.up a p ha (hP _ ha).2) hp) (j.least hP i.nn (fun a p ha => i.up a p ha (hP _ ha).2) hp)
theorem IsH.acyc {ls : Ar} {P : Int → Prop} {h : Int → Int} (i : IsH ls P h) (hP : ∀ t ∈ ls, P t.1 ∧ P t.2) : Acyc ls := ⟨h, fun t ht => i.up t.1 t.2 ht (hP t ht).2⟩
/-- the greatest of nought and some -/
def max0 (l : List Int) : Int := l.foldl max 0
theorem max0_ge (l : List Int) : 0 ≤ max0 l ∧ ∀ y ∈ l, y ≤ max0 l := by
  have := (foldl_max 0 l).2
  exact ⟨this 0 (by simp), fun y hy => this y (by simp [hy])⟩
theorem max0_mem (l : List Int) : max0 l = 0 ∨ max0 l ∈ l := by
  have := (foldl_max 0 l).1
  simpa [max0] using this
theorem max0_one {l : List Int} {m : Int} (h0 : 0 ≤ m) (h1 : ∀ y ∈ l, y ≤ m) (h2 : m = 0 ∨ m ∈ l) : max0 l = m := by
  obtain ⟨a, b⟩ := max0_ge l
  rcases max0_mem l with c | c <;> rcases h2 with d | d
  · omega
  · have := b _ d; omega
  · have := h1 _ c; omega
  · have := h1 _ c; have := b _ d; omega
theorem maxAD_0 (l : List Int) : maxAD [.list ((0 :: l).map .int)] = some (.int (max0 l)) := by
  simp only [maxAD, intsD_map, Option.bind_some]; rfl
/-- where the ties lead -/
def arw (w : Web) (p : List Int) : Ar := List.zipWith (fun t x => if x = 1 then t else (t.2, t.1)) w.ts p
def isP (w : Web) (p : List Int) : Prop := p.length = w.ts.length ∧ ∀ x ∈ p, x = 0 ∨ x = 1
theorem arw_map (w : Web) (f : Int × Int → Int) : arw w (w.ts.map f) = w.ts.map fun t => if f t = 1 then t else (t.2, t.1) := by
  unfold arw
  induction w.ts with
  | nil => rfl
  | cons t ts ih => simp [ih]
theorem arw_len {w : Web} {p : List Int} (h : isP w p) : (arw w p).length = w.ts.length := by
  unfold arw; rw [List.length_zipWith, h.1, Nat.min_self]
theorem mem_zipWith {α β γ : Type} {f : α → β → γ} {t : γ} : ∀ {xs : List α} {ys : List β}, t ∈ List.zipWith f xs ys → ∃ a b, a ∈ xs ∧ b ∈ ys ∧ t = f a b
  | [], _, h => by simp at h
  | _ :: _, [], h => by simp at h
  | x :: xs, y :: ys, h => by
    rw [List.zipWith_cons_cons, List.mem_cons] at h
    rcases h with rfl | h
    · exact ⟨x, y, by simp, by simp, rfl⟩
    · obtain ⟨a, b, ha, hb, e⟩ := mem_zipWith h
      exact ⟨a, b, by simp [ha], by simp [hb], e⟩
theorem arw_mem {w : Web} {p : List Int} {t : Int × Int} (h : t ∈ arw w p) : t ∈ w.ts ∨ (t.2, t.1) ∈ w.ts := by
  obtain ⟨a, b, ha, _, rfl⟩ := mem_zipWith h
  by_cases e : b = 1
  · left; rw [if_pos e]; exact ha
  · right; rw [if_neg e]; exact ha
theorem arw_rg {w : Web} (o : w.ok) {p : List Int} : ∀ t ∈ arw w p, (0 ≤ t.1 ∧ t.1 < w.n) ∧ 0 ≤ t.2 ∧ t.2 < w.n := by
  intro t ht
  rcases arw_mem ht with h | h
  · have := o.rg _ h; omega
  · have := o.rg _ h; simp only at this; omega
/-- each tie leads one way or the other -/
theorem arw_tie {w : Web} {p : List Int} (h : isP w p) {t : Int × Int} (ht : t ∈ w.ts) : t ∈ arw w p ∨ (t.2, t.1) ∈ arw w p := by
  obtain ⟨i, hi, rfl⟩ := List.mem_iff_getElem.mp ht
  have hp : i < p.length := by rw [h.1]; exact hi
  have hl : i < (arw w p).length := by rw [arw_len h]; exact hi
  have e : (arw w p)[i] = if p[i] = 1 then w.ts[i] else (w.ts[i].2, w.ts[i].1) := by simp [arw]
  by_cases c : p[i] = 1
  · left; rw [if_pos c] at e; rw [← e]; exact List.getElem_mem _
  · right; rw [if_neg c] at e; rw [← e]; exact List.getElem_mem _
end Lib
end G7

/-! pointings: readings of the program's defs -/
namespace G7

local macro_rules | `(tactic| walk_at "op") => `(tactic| first
  | with_reducible exact addD_i _ _ | with_reducible exact subD_i _ _ | with_reducible exact ltD_i _ _ | with_reducible exact leD_i _ _ | with_reducible exact gtD_i _ _ | with_reducible exact geD_i _ _
  | with_reducible exact eqD_i _ _ | with_reducible exact neD_i _ _ | with_reducible exact lenD_lm | with_reducible exact lenD_tm | with_reducible exact lenD_l _ | with_reducible exact lenD_t _ | with_reducible exact dP_0 _ | with_reducible exact dP_1 _
  | with_reducible exact ixD_t0 _ _ | with_reducible exact ixD_t1 _ _ _ | with_reducible exact ixD_t2 _ _ _ _ | with_reducible exact ixD_l0 _ _ | with_reducible exact ixD_l0m | with_reducible exact ixD_t0m | exact eqD_sT | exact eqD_sF | exact neD_sT | exact neD_sF | with_reducible exact ixD_l1 _ _ _
  | with_reducible exact Lib.dW_0 _ | with_reducible exact Lib.dW_1 _ | with_reducible exact tupD_l _ | with_reducible exact tupD_t _ | with_reducible exact lstD_l _ | with_reducible exact lstD_t _ | with_reducible exact max2D_i _ _ | with_reducible exact min2D_i _ _
  | with_reducible exact isTD_i | with_reducible exact tupRevD_m | ((with_reducible refine' indexD_li ?_); with_reducible assumption) | ((with_reducible refine' indexD_xi ?_); with_reducible assumption) | with_reducible exact isTD_s _ _ | with_reducible exact powD_6 | with_reducible exact powD_16 | with_reducible exact powD_18 | with_reducible exact isTD_t _ _ | with_reducible exact isTD_l _ _ | with_reducible exact isTD_b _ _ | with_reducible exact isTD_n _ | with_reducible exact isD_bb _ _ | with_reducible exact isNotD_bb _ _ | with_reducible exact isD_n' _ | with_reducible exact isD_lN _ | with_reducible exact isD_tN _ | with_reducible exact isNotD_lN _ | with_reducible exact isNotD_tN _ | with_reducible exact intD_b _ | with_reducible exact intD_i _ | with_reducible exact negD_i _ | with_reducible exact eqD_b _ _ | with_reducible exact neD_b _ _
  | with_reducible exact neD_l0 _ | with_reducible exact eqD_l0 _ | with_reducible exact eqD_li _ _ | with_reducible exact neD_li _ _ | with_reducible exact eqD_ti _ _ | with_reducible exact neD_ti _ _
  | with_reducible exact eqD_lp _ _ | with_reducible exact neD_lp _ _ | with_reducible exact eqD_tp _ _ | with_reducible exact neD_tp _ _
  | with_reducible exact inD_li _ _ | with_reducible exact inD_ti _ _ | with_reducible exact notInD_li _ _ | with_reducible exact notInD_ti _ _ | with_reducible exact inD_lp _ _ | with_reducible exact inD_tp _ _
  | with_reducible exact notInD_lp _ _ | with_reducible exact notInD_tp _ _ | with_reducible exact inD_lp' _ _ _ | with_reducible exact inD_tp' _ _ _ | with_reducible exact notInD_lp' _ _ _ | with_reducible exact notInD_tp' _ _ _
  | with_reducible exact inD_pair _ _ _ | with_reducible exact sortedAD_i _ | with_reducible exact sortedAD_p _ | with_reducible exact allD_b _ | with_reducible exact anyD_b _
  | ((with_reducible refine' addD_1m ?_); omega) | with_reducible exact Lib.maxAD_0 _ | with_reducible exact Lib.din_dI _ _ | with_reducible exact Lib.dinTD_p _ _ | with_reducible exact Lib.dninTD_p _ _ | with_reducible exact Lib.lenTD_p _ | with_reducible exact Lib.sortTLD_p _ | with_reducible exact Lib.dnin_dI _ _ | ((with_reducible apply Lib.dget_dI); with_reducible assumption) | ((with_reducible refine' repLD_0 ?_ ?_) <;> omega) | ((with_reducible refine' slT_tom ?_); omega) | ((with_reducible refine' slT_frm ?_); omega) | ((with_reducible refine' slL_tom ?_); omega) | ((with_reducible refine' slL_frm ?_); omega) | ((with_reducible refine' modD_i ?_); omega) | ((with_reducible refine' fdivD_i ?_ ?_) <;> omega) | ((with_reducible refine' mulID_i (okMul_l ?_ ?_)) <;> omega) | ((with_reducible refine' mulID_i (okMul_r ?_ ?_)) <;> omega)
  | ((with_reducible refine' ixD_lm ?_ ?_) <;> omega) | ((with_reducible refine' ixD_tm ?_ ?_) <;> omega) | with_reducible assumption)
local macro_rules | `(tactic| walk_at "env") => `(tactic| simp only [List.set_cons_zero, List.set_cons_succ, upd, wp_cons, wp_nil, back_cons, back_nil, List.getElem?_cons_zero, List.getElem?_cons_succ, Option.getD_some, toF])
local macro_rules | `(tactic| walk_at "cond") => `(tactic| first | assumption | omega | exact rfl | (focus (simp; done)))
local macro_rules | `(tactic| walk_at "mut") => `(tactic| first | ((with_reducible refine' popAtF_m ?_ ?_) <;> omega) | ((with_reducible refine' appendF_m ?_); first | omega | (simp only [List.length_append, List.length_map, List.length_cons, List.length_nil]; omega)) | ((with_reducible refine' removeF_i ?_); (first | assumption | (simp; done))) | ((with_reducible refine' extendF_m ?_); first | omega | (simp only [List.length_append, List.length_map, List.length_cons, List.length_nil]; omega)))
local macro_rules | `(tactic| walk_at "s") => `(tactic| first
  | with_reducible refine' i_seq ?_ | ((with_reducible apply i_frz); (exact rfl); (first | exact nt_l | exact nt_d)) | ((with_reducible apply i_asV); (exact rfl)) | ((with_reducible apply i_asO); (exact rfl); (first | exact nt_l | exact nt_d)) | with_reducible refine' i_op2 ?_ | with_reducible refine' i_acons ?_ | with_reducible refine' i_anil ?_ | ((with_reducible apply i_var); exact rfl) | with_reducible refine' i_c ?_
  | with_reducible refine' i_asg ?_ | with_reducible refine' i_par ?_ | with_reducible refine' i_par2 ?_ | with_reducible refine' i_call ?_ | with_reducible refine' i_blt ?_ | with_reducible refine' i_op1 ?_ | with_reducible refine' i_tup ?_ | with_reducible refine' i_list ?_
  | ((with_reducible apply i_ex); walk_at "op") | ((with_reducible apply i_exk); walk_at "op")
  | with_reducible refine' i_val ?_ | with_reducible refine' i_exb ?_ | with_reducible refine' i_if ?_ | with_reducible refine' i_ret ?_ | with_reducible refine' i_nil ?_
  | with_reducible refine' i_T ?_ | with_reducible refine' i_F ?_ | with_reducible refine' i_tand ?_ | with_reducible refine' i_tor ?_ | with_reducible refine' i_tnot ?_ | with_reducible refine' i_yes ?_
  | with_reducible refine' i_and ?_ | with_reducible refine' i_or ?_ | with_reducible refine' i_not ?_ | with_reducible refine' i_ife ?_ | with_reducible refine' i_chain ?_
  | with_reducible refine' i_comp ?_ | with_reducible refine' i_iseq ?_ | with_reducible refine' i_irg1 ?_ | with_reducible refine' i_irg2 ?_ | with_reducible refine' i_izip ?_ | with_reducible refine' i_zipT ?_ | with_reducible refine' i_zipL ?_ | with_reducible refine' i_ienum ?_ | ((with_reducible apply i_enum); exact rfl) | with_reducible refine' i_irev ?_
  | with_reducible refine' i_for ?_ | with_reducible refine' i_lstrg ?_ | with_reducible refine' i_asgG ?_ | with_reducible refine' i_asgP ?_ | with_reducible refine' i_expr ?_ | with_reducible refine' i_retN ?_ | with_reducible refine' i_brk ?_ | with_reducible refine' i_cnt ?_
  | with_reducible refine' i_on ?_ | with_reducible refine' i_os ?_ | with_reducible refine' i_sl ?_ | ((with_reducible apply i_exl); exact rfl)
  | ((with_reducible refine' i_rg1 ?_ ?_); (constructor <;> omega)) | ((with_reducible refine' i_rg2 ?_ ?_); (refine ⟨?_, ?_, ?_, ?_⟩ <;> omega))
  | with_reducible refine' i_exi ?_
  | (with_reducible refine' i_len (Nat.le_of_ble_eq_true rfl) ?_)
  | ((with_reducible apply i_g); exact rfl) | ((with_reducible refine' i_plix ?_ ?_); exact rfl) | with_reducible refine' i_plset ?_ | with_reducible refine' i_np ?_
  | with_reducible refine' i_idxL ?_ | with_reducible refine' i_idl ?_ | with_reducible refine' i_idx ?_
  | ((with_reducible apply i_mut1); (exact rfl); walk_at "mut")
  | ((with_reducible apply Lib.i_keysT); exact rfl) | (with_reducible refine' Lib.i_dputT ?_) | ((with_reducible apply Lib.i_dputT0); exact rfl) | ((with_reducible apply Lib.i_dputT1); (exact rfl); omega)
  | (with_reducible refine' Lib.i_dput ?_) | ((with_reducible apply Lib.i_dput0); exact rfl) | ((with_reducible apply Lib.i_dput1); (exact rfl); omega)
  | ((with_reducible refine' i_dT ?_ ?_); walk_at "cond") | ((with_reducible refine' i_dF ?_ ?_); walk_at "cond") | ((with_reducible refine' i_ndT ?_ ?_); walk_at "cond") | ((with_reducible refine' i_ndF ?_ ?_); walk_at "cond")
  | ((with_reducible refine' i_bT ?_ ?_); (first | with_reducible assumption | exact rfl)) | ((with_reducible refine' i_bF ?_ ?_); (first | with_reducible assumption | exact rfl))
  | ((with_reducible apply i_setixm); (exact rfl); omega; omega) | (with_reducible refine' i_setix ?_) | ((with_reducible apply i_setix0); exact rfl) | ((with_reducible apply i_mut); exact rfl))
local macro_rules | `(tactic| walk_at "run") => `(tactic| (repeat (walk_at "s")); try walk_at "env")
local macro_rules | `(tactic| walk_at "start") => `(tactic| simp only [startE, List.map_cons, List.map_nil, List.length_cons, List.length_nil, Nat.reduceAdd, Nat.reduceSub, Nat.zero_add, List.replicate_succ, List.replicate_zero, List.cons_append, List.nil_append])
local macro_rules | `(tactic| walk_at "len") => `(tactic| first | omega | (simp only [List.length_map, List.length_append, List.length_cons, List.length_nil]; omega) | (refine Nat.le_trans ?_ (Nat.le_refl _); have := List.length_filter_le; simp_all; done))
local macro_rules | `(tactic| walk_at "opl") => `(tactic| first | ((with_reducible refine' addD_lm ?_); walk_at "len") | ((with_reducible refine' addD_tm ?_); walk_at "len") | ((with_reducible refine' addLD_lm ?_); walk_at "len"))
/-- a comprehension: of what is walked itself, of ints, pairs, truths -/
local macro_rules | `(tactic| walk_at "comp") => `(tactic| first
  | (refine comp_fil ?_ (fun x hx => ?_) ?_; rotate_left 1; focus ((try have hx1 := Fact.use (by assumption) hx); (try have hx2 := mem_ints.mp hx); (try dsimp only at hx1); refine ⟨_, rfl, fun R hR => ?_, fun hp R hR => ?_, rfl⟩ <;> (repeat (walk_at "s")) <;> exact hR))
  | (refine comp_all (en2 := PySem.PyData.int) ?_ (fun x hx => ?_) ?_; rotate_left 1; focus ((try have hx1 := Fact.use (by assumption) hx); (try have hx2 := mem_ints.mp hx); (try dsimp only at hx1); refine ⟨_, rfl, fun R hR => ?_, rfl⟩ <;> (repeat (walk_at "s")) <;> exact hR))
  | (refine comp_all (en2 := PySem.PyData.bool) ?_ (fun x hx => ?_) ?_; rotate_left 1; focus ((try have hx1 := Fact.use (by assumption) hx); (try have hx2 := mem_ints.mp hx); (try dsimp only at hx1); refine ⟨_, rfl, fun R hR => ?_, rfl⟩ <;> (repeat (walk_at "s")) <;> exact hR))
  | (refine comp_all (en2 := dP) ?_ (fun x hx => ?_) ?_; rotate_left 1; focus ((try have hx1 := Fact.use (by assumption) hx); (try have hx2 := mem_ints.mp hx); (try dsimp only at hx1); refine ⟨_, rfl, fun R hR => ?_, rfl⟩ <;> (repeat (walk_at "s")) <;> exact hR))
  | (refine comp_el (en2 := PySem.PyData.int) ?_ ?_ (fun x hx => ?_) ?_; rotate_left 2; focus ((try have hx1 := Fact.use (by assumption) hx); (try have hx2 := mem_ints.mp hx); (try dsimp only at hx1); refine ⟨_, rfl, fun R hR => ?_, fun hp R hR => ?_, rfl⟩ <;> (repeat (walk_at "s")) <;> exact hR))
  | (refine comp_el (en2 := dP) ?_ ?_ (fun x hx => ?_) ?_; rotate_left 2; focus ((try have hx1 := Fact.use (by assumption) hx); (try have hx2 := mem_ints.mp hx); (try dsimp only at hx1); refine ⟨_, rfl, fun R hR => ?_, fun hp R hR => ?_, rfl⟩ <;> (repeat (walk_at "s")) <;> exact hR))
  | (refine comp_el (en2 := PySem.PyData.bool) ?_ ?_ (fun x hx => ?_) ?_; rotate_left 2; focus ((try have hx1 := Fact.use (by assumption) hx); (try have hx2 := mem_ints.mp hx); (try dsimp only at hx1); refine ⟨_, rfl, fun R hR => ?_, fun hp R hR => ?_, rfl⟩ <;> (repeat (walk_at "s")) <;> exact hR))
  | (refine comp_allD (en2 := PySem.PyData.int) ?_ (fun x hx => ?_) ?_; rotate_left 1; focus ((try have hx1 := Fact.use (by assumption) hx); (try dsimp only at hx1); refine ⟨_, rfl, fun R hR => ?_, rfl⟩ <;> (repeat (walk_at "s")) <;> exact hR))
  | (refine comp_allD (en2 := PySem.PyData.bool) ?_ (fun x hx => ?_) ?_; rotate_left 1; focus ((try have hx1 := Fact.use (by assumption) hx); (try dsimp only at hx1); refine ⟨_, rfl, fun R hR => ?_, rfl⟩ <;> (repeat (walk_at "s")) <;> exact hR)))
local macro_rules | `(tactic| walk_at "runc") => `(tactic| (repeat (first | walk_at "s" | walk_at "comp")); try walk_at "env")
namespace Lib
open PySem
/-- arrows: slots 0 web:r, 1 pointing:r, 2 tie:v, 3 number:v; modes ['rd', 'rd']; answer fz -/
def wb_arrows : WS :=
  (wRet (wComp (wiZip2 (wOp2 ixD (wVar 0) (wC (.int 1))) (wVar 1)) (gT [(gN 2), (gN 3)]) [2, 3] G7.tYes (wTup (waCons (wOp2 ixD (wVar 2) (wOp2 subD (wC (.int 1)) (wVar 3))) (waCons (wOp2 ixD (wVar 2) (wVar 3)) waNil)))))
theorem zip_arw (ts : List (Int × Int)) (p : List Int) (f : (Int × Int) × Int → Int × Int) : (ts.zip p).map f = List.zipWith (fun t x => f (t, x)) ts p := by
  induction ts generalizing p with
  | nil => simp
  | cons t ts ih => cases p with
    | nil => simp
    | cons x p => simp [ih]
theorem ixP (t : Int × Int) {x : Int} (h : x = 0 ∨ x = 1) : ixD (dP t) (.int (1 - x)) = some (.int (if x = 1 then t.1 else t.2)) ∧ ixD (dP t) (.int x) = some (.int (if x = 1 then t.2 else t.1)) := by
  rcases h with rfl | rfl <;> exact ⟨rfl, rfl⟩
def S_arrows : FS := fun ds Post => ∃ w p, ds = [dW w, TI p] ∧ isP w p ∧ Post (LP (arw w p))
theorem m_arrows {rk : RK} : ∀ ds Post, S_arrows ds Post → wb_arrows { nx := fun _ => Post .none ∧ rk = .fz, rt := fun d _ => Post d } (startE 4 ds) := by
  rintro ds Post ⟨w, p, rfl, hp, hP⟩
  unfold wb_arrows
  walk_at "start"
  walk_at "run"
  refine comp_all (en2 := dP) (fun (z : (Int × Int) × Int) => if z.2 = 1 then z.1 else (z.1.2, z.1.1)) (fun z hz => ?_) ?_
  · have hx := ixP z.1 (hp.2 _ (List.of_mem_zip hz).2)
    refine ⟨_, rfl, fun R hR => ?_, rfl⟩
    walk_at "run"
    refine i_ex hx.1 ?_
    walk_at "run"
    refine i_ex hx.2 ?_
    walk_at "run"
    by_cases h1 : z.2 = 1
    · rw [if_pos h1] at hR ⊢; rw [if_pos h1]; exact hR
    · rw [if_neg h1] at hR ⊢; rw [if_neg h1]; exact hR
  walk_at "run"
  rw [zip_arw]
  exact hP
/-- before: slots 0 some:r, 1 place:r, 2 left:r, 3 one:v, 4 other:v; modes ['rd', 'rd', 'rd']; answer fz -/
def wb_before : WS :=
  (wRet (wComp (wiSeq (wVar 0)) (gT [(gN 3), (gN 4)]) [3, 4] (tAnd (tVal (wOp2 eqD (wVar 4) (wVar 1))) (tVal (wOp2 inD (wVar 3) (wVar 2)))) (wVar 3)))
def befF (ls : Ar) (q : Int) (l : List Int) : List Int := (ls.filter fun t => decide (t.2 = q) && decide (t.1 ∈ l)).map (·.1)
theorem mem_bef {ls : Ar} {q : Int} {l : List Int} {a : Int} : a ∈ befF ls q l ↔ (a, q) ∈ ls ∧ a ∈ l := by
  unfold befF
  simp only [List.mem_map, List.mem_filter, Bool.and_eq_true, decide_eq_true_eq]
  constructor
  · rintro ⟨⟨x, y⟩, ⟨h1, h2, h3⟩, rfl⟩
    simp only at h2; subst h2
    exact ⟨h1, h3⟩
  · rintro ⟨h1, h2⟩
    exact ⟨(a, q), ⟨h1, rfl, h2⟩, rfl⟩
def S_before : FS := fun ds Post => ∃ ls q l, ds = [LP ls, .int q, LI l] ∧ Post (LI (befF ls q l))
theorem m_before {rk : RK} : ∀ ds Post, S_before ds Post → wb_before { nx := fun _ => Post .none ∧ rk = .fz, rt := fun d _ => Post d } (startE 5 ds) := by
  rintro ds Post ⟨ls, q, l, rfl, hP⟩
  unfold wb_before
  walk_at "start"
  walk_at "run"
  refine comp_el (en2 := .int) (fun t => decide (t.2 = q) && decide (t.1 ∈ l)) (·.1) (fun t ht => ⟨_, rfl, fun R hR => ?_, fun hp R hR => ?_, rfl⟩) ?_
  · by_cases h : t.2 = q
    · walk_at "run"
      simpa [h] using hR
    · walk_at "run"
      simpa [h] using hR
  · walk_at "run"; exact hR
  walk_at "run"
  exact hP
/-- round_in: slots 0 some:r, 1 left:r, 2 way:o, 3 here:v; modes ['rd', 'rd']; answer fz -/
def wb_round_in (S_before : FS) : WS :=
  (wSeq (wAsg 2 (wList waNil))
    (wSeq (wAsg 3 (wOp2 ixD (wVar 1) (wC (.int 0))))
    (wSeq (wWhile (tVal (wOp2 notInD (wVar 3) (wVar 2))) (wSeq (wExpr (wMut 2 appendF (waCons (wVar 3) waNil)))
    (wAsg 3 (wOp2 ixD (wCall S_before (waCons (wVar 0) (waCons (wVar 3) (waCons (wVar 1) waNil)))) (wC (.int 0))))))
    (wRet (wOp1 tupRevD (wSl slD (wVar 2) (woS (wIdx indexD (wVar 2) (wVar 3))) woN))))))
/-- a round by arrows: each leads to the one behind it, the last one to the first -/
def nexts (r : List Int) : List (Int × Int) := r.zip (r.tail ++ r.take 1)
structure Rnd (ls : Ar) (r : List Int) : Prop where
  nd : r.Nodup
  ne : r ≠ []
  ld : ∀ z ∈ nexts r, z ∈ ls
theorem mem_nexts {r : List Int} {z : Int × Int} : z ∈ nexts r ↔ ∃ i, ∃ h : i < r.length, z.1 = r[i] ∧ ((∃ h2 : i + 1 < r.length, z.2 = r[i + 1]) ∨ (i + 1 = r.length ∧ ∃ h0 : 0 < r.length, z.2 = r[0])) := by
  unfold nexts
  have hl : (r.tail ++ r.take 1).length = r.length := by
    cases r with
    | nil => rfl
    | cons a r => simp
  constructor
  · intro h
    obtain ⟨i, hi, e⟩ := List.mem_iff_getElem.mp h
    rw [List.length_zip, hl, Nat.min_self] at hi
    rw [List.getElem_zip] at e
    subst e
    refine ⟨i, hi, rfl, ?_⟩
    by_cases c : i + 1 < r.length
    · left
      refine ⟨c, ?_⟩
      simp only
      rw [List.getElem_append_left (by rw [List.length_tail]; omega), List.getElem_tail]
    · right
      refine ⟨by omega, by omega, ?_⟩
      simp only
      rw [List.getElem_append_right (by rw [List.length_tail]; omega)]
      simp
      congr 1
      omega
  · rintro ⟨i, hi, e1, h⟩
    refine List.mem_iff_getElem.mpr ⟨i, by rw [List.length_zip, hl, Nat.min_self]; exact hi, ?_⟩
    rw [List.getElem_zip]
    refine Prod.ext e1.symm ?_
    simp only
    rcases h with ⟨h2, e2⟩ | ⟨h2, h0, e2⟩
    · rw [List.getElem_append_left (by rw [List.length_tail]; omega), List.getElem_tail, e2]
    · rw [List.getElem_append_right (by rw [List.length_tail]; omega), e2]
      simp
      congr 1
      omega
/-- walked back from a place of it -/
theorem back_rnd {ls : Ar} {s : List Int} (nd : s.Nodup) (ne : 0 < s.length) (hb : ∀ i, ∀ h : i + 1 < s.length, (s[i + 1], s[i]) ∈ ls) (hc : (s[0], s[s.length - 1]) ∈ ls) : Rnd ls s.reverse := by
  refine ⟨by rw [List.Nodup, List.pairwise_reverse]; exact nd.imp fun h => h.symm, by simpa using List.length_pos_iff.mp ne, fun z hz => ?_⟩
  obtain ⟨i, hi, e1, h⟩ := mem_nexts.mp hz
  rw [List.length_reverse] at hi
  rw [List.getElem_reverse] at e1
  rcases h with ⟨h2, e2⟩ | ⟨h2, h0, e2⟩
  · rw [List.length_reverse] at h2
    rw [List.getElem_reverse] at e2
    have := hb (s.length - 1 - (i + 1)) (by omega)
    have e3 : s[s.length - 1 - (i + 1) + 1]'(by omega) = s[s.length - 1 - i]'(by omega) := by congr 1; omega
    rw [e3, ← e1, ← e2] at this
    exact this
  · rw [List.length_reverse] at h2
    rw [List.getElem_reverse] at e2
    have e3 : s[s.length - 1 - i]'(by omega) = s[0] := by congr 1; omega
    have e4 : s[s.length - 1 - 0]'(by omega) = s[s.length - 1] := by congr 1
    rw [e3] at e1
    rw [e4] at e2
    rw [← e1, ← e2] at hc
    exact hc
theorem nodup_sub_len {l m : List Int} (h : l.Nodup) (s : ∀ x ∈ l, x ∈ m) : l.length ≤ m.length := nodup_le h s
def S_round_in : FS := fun ds Post => ∃ ls l, ds = [LP ls, LI l] ∧ l ≠ [] ∧ l.length ≤ 1000 ∧ (∀ q ∈ l, ∃ a ∈ l, (a, q) ∈ ls) ∧ ∀ r, Rnd ls r → Post (TI r)
theorem m_round_in {rk : RK} : ∀ ds Post, S_round_in ds Post → wb_round_in S_before { nx := fun _ => Post .none ∧ rk = .fz, rt := fun d _ => Post d } (startE 4 ds) := by
  rintro ds Post ⟨ls, l, rfl, ne, hl, hst, hP⟩
  unfold wb_round_in
  walk_at "start"
  have hp : 0 < l.length := List.length_pos_iff.mpr ne
  walk_at "run"
  have h0 : gI l 0 ∈ l := gI_mem (by omega) (by omega)
  refine while_st [2, 3] (fun vs => ∃ (w : List Int) (h : Int), w.Nodup ∧ (∀ x ∈ w, x ∈ l) ∧ h ∈ l ∧ (∀ i, ∀ h : i + 1 < w.length, (w[i + 1], w[i]) ∈ ls) ∧ (∀ c : 0 < w.length, (h, w[w.length - 1]) ∈ ls) ∧ vs = [some (LI w), sI h])
    (fun vs => match vs with | some (.list w) :: _ => l.length + 1 - w.length | _ => 0) [_, _] rfl ⟨[], _, by simp, by simp, h0, by simp, by simp, rfl⟩ ?_
  rintro _ ⟨w, h, hnd, hsub, hh, hbk, hlast, rfl⟩ R hR
  have hwl := nodup_sub_len hnd hsub
  by_cases hm : h ∈ w
  · walk_at "run"
    refine hP _ ?_
    have hi : w.idxOf h < w.length := List.idxOf_lt_length_of_mem hm
    rw [Int.toNat_natCast]
    have hd : (w.drop (w.idxOf h)).length = w.length - w.idxOf h := List.length_drop
    refine back_rnd (hnd.sublist (List.drop_sublist _ _)) (by rw [hd]; omega) (fun i hi2 => ?_) ?_
    · rw [hd] at hi2
      rw [List.getElem_drop, List.getElem_drop]
      exact hbk (w.idxOf h + i) (by omega)
    · rw [List.getElem_drop, List.getElem_drop]
      have e1 : w[w.idxOf h + 0]'(by omega) = h := List.getElem_idxOf hi
      have e2 : w[w.idxOf h + ((w.drop (w.idxOf h)).length - 1)]'(by rw [hd]; omega) = w[w.length - 1]'(by omega) := by congr 1; rw [hd]; omega
      rw [e1, e2]
      exact hlast (by omega)
  · walk_at "run"
    refine ⟨ls, h, l, rfl, ?_⟩
    obtain ⟨a, ha, hal⟩ := hst h hh
    have hb : a ∈ befF ls h l := mem_bef.mpr ⟨hal, ha⟩
    have hbp : 0 < (befF ls h l).length := List.length_pos_of_mem hb
    have hb0 := mem_bef.mp (gI_mem (l := befF ls h l) (k := 0) (by omega) (by omega))
    walk_at "run"
    refine hR [_, _] ⟨_, _, ?_, ?_, hb0.2, ?_, ?_, rfl⟩ ?_
    · rw [List.nodup_append]
      exact ⟨hnd, by simp, fun x hx y hy => by simp at hy; subst hy; rintro rfl; exact hm hx⟩
    · intro x hx
      rcases List.mem_append.mp hx with hx | hx
      · exact hsub x hx
      · simp at hx; subst hx; exact hh
    · intro i hi
      rw [List.length_append, List.length_singleton] at hi
      by_cases c : i + 1 < w.length
      · rw [List.getElem_append_left c, List.getElem_append_left (by omega)]
        exact hbk i c
      · rw [List.getElem_append_right (by omega), List.getElem_append_left (by omega)]
        have e : w[i]'(by omega) = w[w.length - 1]'(by omega) := by congr 1; omega
        rw [e]
        simpa using hlast (by omega)
    · intro c
      have e : (w ++ [h])[(w ++ [h]).length - 1]'(by omega) = h := by simp
      rw [e]
      exact hb0.1
    · simp only [List.length_map, List.length_append, List.length_singleton]
      omega
/-- looked: slots 0 web:r, 1 pointing:r, 2 some:v, 3 left:o, 4 order:o, 5 open_ones:v, 6 place:v; modes ['rd', 'rd']; answer fz -/
def wb_looked (S_arrows : FS) (S_before : FS) (S_round_in : FS) : WS :=
  (wSeq (wAsg 2 (wCall S_arrows (waCons (wVar 0) (waCons (wVar 1) waNil))))
    (wSeq (wAsg 3 (wLstRg (wiRg1 (wOp2 ixD (wVar 0) (wC (.int 0))))))
    (wSeq (wAsg 4 (wList waNil))
    (wSeq (wWhile (tVal (wOp2 neD (wVar 3) (wList waNil))) (wSeq (wAsg 5 (wComp (wiSeq (wVar 3)) (gN 6) [6] (tVal (wOp2 eqD (wCall S_before (waCons (wVar 2) (waCons (wVar 6) (waCons (wVar 3) waNil)))) (wList waNil))) (wVar 6)))
    (wSeq (wIf (tVal (wOp2 eqD (wVar 5) (wList waNil))) (wRet (wTup (waCons (wC (.str "round")) (waCons (wCall S_round_in (waCons (wVar 2) (waCons (wVar 3) waNil))) waNil)))) wNil)
    (wSeq (wExpr (wMut 4 appendF (waCons (wOp2 ixD (wVar 5) (wC (.int 0))) waNil)))
    (wExpr (wMut 3 removeF (waCons (wOp2 ixD (wVar 5) (wC (.int 0))) waNil)))))))
    (wRet (wTup (waCons (wC (.str "order")) (waCons (wBlt tupD (waCons (wVar 4) waNil)) waNil))))))))
/-- the first order, place by place: o is what has been laid, l what is left -/
inductive Gr (ls : Ar) (l0 : List Int) : List Int → List Int → Prop
  | nil : Gr ls l0 [] l0
  | snoc {o l r : List Int} {p : Int} : Gr ls l0 o l → (l.filter fun q => decide (befF ls q l = [])) = p :: r → Gr ls l0 (o ++ [p]) (l.erase p)
theorem Gr.perm {ls : Ar} {l0 o l : List Int} (g : Gr ls l0 o l) : (o ++ l).Perm l0 := by
  induction g with
  | nil => exact .refl _
  | @snoc o l r p _ h ih =>
    have hp : p ∈ l := by
      have : p ∈ l.filter fun q => decide (befF ls q l = []) := by rw [h]; simp
      exact (List.mem_filter.mp this).1
    rw [List.append_assoc]
    exact ((List.perm_cons_erase hp).symm.append_left o).trans ih
theorem Gr.topo {ls : Ar} {l0 o l : List Int} (g : Gr ls l0 o l) (nd : l0.Nodup) (hr : ∀ t ∈ ls, t.1 ∈ l0) : Topo ls o := by
  induction g with
  | nil => exact .nil
  | @snoc o l r p g h ih =>
    have hm : p ∈ l.filter fun q => decide (befF ls q l = []) := by rw [h]; simp
    obtain ⟨hp, hb⟩ := List.mem_filter.mp hm
    have hb : befF ls p l = [] := by simpa using hb
    have nd2 : (o ++ l).Nodup := g.perm.nodup_iff.mpr nd
    rw [List.nodup_append] at nd2
    refine ih.snoc (fun c => nd2.2.2 p c p hp rfl) fun a ha => ?_
    have : a ∈ o ++ l := g.perm.mem_iff.mpr (hr _ ha)
    rcases List.mem_append.mp this with c | c
    · exact c
    · have : a ∈ befF ls p l := mem_bef.mpr ⟨ha, c⟩
      rw [hb] at this; simp at this
theorem Gr.one {ls : Ar} {l0 : List Int} : ∀ {o l o' l' : List Int}, Gr ls l0 o l → Gr ls l0 o' l' → o.length = o'.length → o = o' ∧ l = l' := by
  intro o l o' l' g
  induction g generalizing o' l' with
  | nil =>
    intro g' h
    cases g' with
    | nil => exact ⟨rfl, rfl⟩
    | snoc _ _ => simp at h
  | @snoc o l r p g h ih =>
    intro g' hl
    cases g' with
    | nil => simp at hl
    | @snoc o2 l2 r2 p2 g2 h2 =>
      obtain ⟨rfl, rfl⟩ := ih g2 (by simpa using hl)
      rw [h] at h2
      cases h2
      exact ⟨rfl, rfl⟩
def S_looked : FS := fun ds Post => ∃ w p, ds = [dW w, TI p] ∧ w.ok ∧ isP w p ∧ (∀ o, Gr (arw w p) (irng 0 w.n) o [] → Post (.tuple [.str "order", TI o])) ∧ (¬ Acyc (arw w p) → ∀ r, Rnd (arw w p) r → Post (.tuple [.str "round", TI r]))
theorem m_looked {rk : RK} : ∀ ds Post, S_looked ds Post → wb_looked S_arrows S_before S_round_in { nx := fun _ => Post .none ∧ rk = .fz, rt := fun d _ => Post d } (startE 7 ds) := by
  rintro ds Post ⟨w, p, rfl, o, hp, hP, hN⟩
  unfold wb_looked
  have n9 := o.n9
  have n1 := o.n1
  walk_at "start"
  walk_at "run"
  refine ⟨w, p, rfl, hp, ?_⟩
  have hrg := arw_rg o (p := p)
  generalize arw w p = ls at *
  walk_at "run"
  have nd0 : (irng 0 w.n).Nodup := (ints_sorted _ _).imp fun h => by omega
  refine while_st [3, 4, 5, 6] (fun vs => ∃ (l od : List Int) (a b : Option D), Gr ls (irng 0 w.n) od l ∧ vs = [some (LI l), some (LI od), a, b]) (fun vs => match vs with | some (.list l) :: _ => l.length | _ => 0) [_, _, _, _] rfl ⟨_, [], _, _, .nil, rfl⟩ ?_
  rintro _ ⟨l, od, a, b, g, rfl⟩ R hR
  have hlen := g.perm.length_eq
  rw [ints_len, List.length_append] at hlen
  by_cases hl : l = []
  · walk_at "run"
    subst hl
    exact hP od g
  · walk_at "run"
    refine comp_fil (fun q => decide (befF ls q l = [])) (fun q hq => ⟨_, rfl, fun R hR => ?_, fun _ R hR => ?_, rfl⟩) ?_
    · walk_at "run"
      refine ⟨ls, q, l, rfl, ?_⟩
      walk_at "run"
      exact hR
    · walk_at "run"; exact hR
    walk_at "run"
    cases hop : l.filter fun q => decide (befF ls q l = []) with
    | nil =>
      walk_at "run"
      have stuck : ∀ q ∈ l, ∃ a ∈ l, (a, q) ∈ ls := fun q hq => by
        apply Classical.byContradiction
        intro c
        have hb : befF ls q l = [] := by
          cases e : befF ls q l with
          | nil => rfl
          | cons x xs =>
            have := mem_bef.mp (show x ∈ befF ls q l by rw [e]; simp)
            exact absurd ⟨x, this.2, this.1⟩ c
        have : q ∈ l.filter fun q => decide (befF ls q l = []) := List.mem_filter.mpr ⟨hq, by simpa using hb⟩
        rw [hop] at this; simp at this
      refine ⟨ls, l, rfl, hl, by omega, stuck, fun r hr => ?_⟩
      walk_at "run"
      refine hN (fun c => ?_) r hr
      obtain ⟨q, hq, h2⟩ := c.stuck hl
      obtain ⟨a, ha, hb⟩ := stuck q hq
      exact h2 a ha hb
    | cons x xs =>
      have hx : x ∈ l := by
        have : x ∈ l.filter fun q => decide (befF ls q l = []) := by rw [hop]; simp
        exact (List.mem_filter.mp this).1
      have hg : gI (x :: xs) 0 = x := rfl
      walk_at "run"
      have hle := List.length_erase_of_mem hx
      have hpos : 0 < l.length := List.length_pos_of_mem hx
      refine hR [_, _, _, _] ⟨_, _, _, _, g.snoc hop, rfl⟩ ?_
      simp only [List.length_map]
      omega
/-- is_fall: slots 0 web:r, 1 pointing:r; modes ['rd', 'rd']; answer fz -/
def wb_is_fall (S_looked : FS) : WS :=
  (wRet (wOp2 eqD (wOp2 ixD (wCall S_looked (waCons (wVar 0) (waCons (wVar 1) waNil))) (wC (.int 0))) (wC (.str "order"))))
open Classical in
noncomputable def acB (ls : Ar) : Bool := decide (Acyc ls)
theorem acB_t {ls : Ar} : acB ls = true ↔ Acyc ls := by simp [acB]
theorem acB_f {ls : Ar} : acB ls = false ↔ ¬ Acyc ls := by simp [acB]
def S_is_fall : FS := fun ds Post => ∃ w p, ds = [dW w, TI p] ∧ w.ok ∧ isP w p ∧ Post (.bool (acB (arw w p)))
theorem Gr.acyc {w : Web} {p o : List Int} (ok : w.ok) (g : Gr (arw w p) (irng 0 w.n) o []) : Acyc (arw w p) := by
  have hrg := arw_rg ok (p := p)
  have nd0 : (irng 0 w.n).Nodup := (ints_sorted _ _).imp fun h => by omega
  have ht := g.topo nd0 fun t ht => mem_ints.mpr (hrg t ht).1
  refine ht.acyc fun t ht => ?_
  have := g.perm.mem_iff.mpr (mem_ints.mpr (hrg t ht).2)
  simpa using this
theorem m_is_fall {rk : RK} : ∀ ds Post, S_is_fall ds Post → wb_is_fall S_looked { nx := fun _ => Post .none ∧ rk = .fz, rt := fun d _ => Post d } (startE 2 ds) := by
  rintro ds Post ⟨w, p, rfl, o, hp, hP⟩
  have hT : Acyc (arw w p) → Post (.bool true) := fun h => by rw [acB_t.mpr h] at hP; exact hP
  have hF : ¬ Acyc (arw w p) → Post (.bool false) := fun h => by rw [acB_f.mpr h] at hP; exact hP
  unfold wb_is_fall
  walk_at "start"
  walk_at "run"
  refine ⟨w, p, rfl, o, hp, fun od g => ?_, fun c r _ => ?_⟩
  · walk_at "run"
    exact hT (g.acyc o)
  · walk_at "run"
    exact hF c
end Lib
end G7

/-! hues laid along an order -/
namespace G7
namespace Lib
open PySem
/-- the least number from 0 on that is not there -/
def leastF (l : List Int) : Int := ((irng 0 ((l.length : Int) + 1)).find? fun x => decide (x ∉ l)).getD 0
theorem leastF_some (l : List Int) : ∃ r, (irng 0 ((l.length : Int) + 1)).find? (fun x => decide (x ∉ l)) = some r := by
  cases h : (irng 0 ((l.length : Int) + 1)).find? (fun x => decide (x ∉ l)) with
  | some r => exact ⟨r, rfl⟩
  | none =>
    exfalso
    rw [List.find?_eq_none] at h
    have := nodup_le (l := irng 0 ((l.length : Int) + 1)) (m := l) ((ints_sorted _ _).imp fun h => by omega) fun x hx => by
      have := h x hx
      simpa using this
    rw [ints_len] at this
    omega
theorem leastF_ok (l : List Int) : 0 ≤ leastF l ∧ leastF l ∉ l ∧ ∀ j, 0 ≤ j → j < leastF l → j ∈ l := by
  obtain ⟨r, hr⟩ := leastF_some l
  have e : leastF l = r := by unfold leastF; rw [hr]; rfl
  rw [e]
  rw [List.find?_eq_some_iff_getElem] at hr
  obtain ⟨h1, k, hk, h2, h3⟩ := hr
  have hlen : k < ((l.length : Int) + 1 - 0).toNat := by rw [← ints_len]; exact hk
  have h4 : (irng 0 ((l.length : Int) + 1))[k] = (k : Int) := by
    have := ints_get hlen
    rw [List.getElem?_eq_getElem hk] at this
    simpa using this
  rw [h4] at h2
  subst h2
  refine ⟨by omega, by simpa using h1, fun j j0 j1 => ?_⟩
  have h5 := h3 j.toNat (by omega)
  have h6 : (irng 0 ((l.length : Int) + 1))[j.toNat]'(by omega) = j := by
    have := ints_get (lo := 0) (hi := (l.length : Int) + 1) (k := j.toNat) (by omega)
    rw [List.getElem?_eq_getElem (by omega)] at this
    have := Option.some.inj this
    omega
  rw [h6] at h5
  simpa using h5
theorem leastF_le {l : List Int} {x : Int} (h0 : 0 ≤ x) (h : x ∉ l) : leastF l ≤ x := by
  have := (leastF_ok l).2.2 x h0
  apply Classical.byContradiction
  intro c
  exact h (this (by omega))
theorem leastF_one {l : List Int} {x : Int} (h0 : 0 ≤ x) (h : x ∉ l) (h2 : ∀ j, 0 ≤ j → j < x → j ∈ l) : x = leastF l := by
  have a := leastF_le h0 h
  have b := leastF_ok l
  by_cases c : leastF l < x
  · exact absurd (h2 _ b.1 c) b.2.1
  · omega
/-- what is found along an order -/
def hueM (w : Web) : List Int → List (Int × Int) → List (Int × Int)
  | [], m => m
  | p :: os, m => hueM w os (m ++ [(p, leastF (((nearF w p).filter fun q => (m.lookup q).isSome).map fun q => (m.lookup q).getD 0))])
theorem lookup_app {m : List (Int × Int)} {q p v : Int} : (m ++ [(p, v)]).lookup q = match m.lookup q with | some x => some x | none => if q = p then some v else none := by
  induction m with
  | nil =>
    by_cases h : q = p
    · subst h; simp [List.lookup]
    · have : (q == p) = false := by simpa using h
      simp [List.lookup, this, h]
  | cons t m ih =>
    obtain ⟨a, b⟩ := t
    by_cases h : q = a
    · subst h; simp [List.lookup]
    · have : (q == a) = false := by simpa using h
      simp only [List.cons_append, List.lookup, this]
      exact ih
/-- the final hue -/
def H (w : Web) (os : List Int) (p : Int) : Int := ((hueM w os []).lookup p).getD 0
theorem hueM_keep (w : Web) : ∀ (os : List Int) (m : List (Int × Int)) {q v : Int}, m.lookup q = some v → (hueM w os m).lookup q = some v
  | [], m, q, v, h => h
  | p :: os, m, q, v, h => hueM_keep w os _ (by rw [lookup_app, h])
theorem hueM_keys (w : Web) : ∀ (os : List Int) (m : List (Int × Int)) (q : Int), ((hueM w os m).lookup q).isSome = ((m.lookup q).isSome || decide (q ∈ os))
  | [], m, q => by simp [hueM]
  | p :: os, m, q => by
    unfold hueM
    rw [hueM_keys w os, lookup_app]
    cases h : m.lookup q with
    | some x => simp
    | none =>
      by_cases e : q = p
      · simp [e]
      · simp [e]
theorem hueM_app (w : Web) : ∀ (xs ys : List Int) (m : List (Int × Int)), hueM w (xs ++ ys) m = hueM w ys (hueM w xs m)
  | [], ys, m => rfl
  | x :: xs, ys, m => by
    simp only [List.cons_append, hueM]
    exact hueM_app w xs ys _
/-- each hue is the least that no earlier tied place has -/
theorem H_eq {w : Web} {os pre post : List Int} {p : Int} (e : os = pre ++ p :: post) (nd : os.Nodup) : H w os p = leastF (((nearF w p).filter fun q => decide (q ∈ pre)).map (H w os)) := by
  subst e
  have hp : p ∉ pre := fun h => by
    rw [List.nodup_append] at nd
    exact nd.2.2 p h p (by simp) rfl
  have hnone : (hueM w pre []).lookup p = none := by
    have := hueM_keys w pre [] p
    cases h : (hueM w pre []).lookup p with
    | none => rfl
    | some x => rw [h] at this; simp [hp] at this
  have keys : ∀ q, ((hueM w pre []).lookup q).isSome = decide (q ∈ pre) := fun q => by
    have := hueM_keys w pre [] q
    simpa using this
  have key : (hueM w (pre ++ p :: post) []).lookup p = some (leastF (((nearF w p).filter fun q => ((hueM w pre []).lookup q).isSome).map fun q => ((hueM w pre []).lookup q).getD 0)) := by
    rw [hueM_app]
    show (hueM w post _).lookup p = _
    refine hueM_keep w post _ ?_
    rw [lookup_app, hnone]; simp
  unfold H
  rw [key, Option.getD_some]
  congr 1
  have hf : (fun q => ((hueM w pre []).lookup q).isSome) = fun q => decide (q ∈ pre) := funext keys
  rw [hf]
  refine List.map_congr_left fun q hq => ?_
  have hq' : q ∈ pre := by simpa using (List.mem_filter.mp hq).2
  have hs := keys q
  rw [decide_eq_true hq'] at hs
  obtain ⟨v, hv⟩ := Option.isSome_iff_exists.mp hs
  rw [hv, hueM_app, hueM_keep w _ _ hv]
theorem H_nn {w : Web} {os : List Int} {p : Int} (nd : os.Nodup) (h : p ∈ os) : 0 ≤ H w os p := by
  obtain ⟨pre, post, e⟩ := List.append_of_mem h
  rw [H_eq e nd]; exact (leastF_ok _).1
theorem split_one {α : Type} {a : α} : ∀ {xs ys us vs : List α}, xs ++ a :: ys = us ++ a :: vs → a ∉ xs → a ∉ us → xs = us
  | [], _, [], _, _, _, _ => rfl
  | [], _, u :: us, _, h, _, n => by
    have := (List.cons.inj h).1
    exact absurd (by simp [this]) n
  | x :: xs, _, [], _, h, n, _ => by
    have := (List.cons.inj h).1
    exact absurd (by simp [this]) n
  | x :: xs, _, u :: us, _, h, n, n2 => by
    obtain ⟨e, h⟩ := List.cons.inj h
    rw [e, split_one h (fun z => n (by simp [z])) (fun z => n2 (by simp [z]))]
/-- tied places have unlike hues -/
theorem H_ne {w : Web} (o : w.ok) {os : List Int} (nd : os.Nodup) {a b : Int} (ha : a ∈ os) (hb : b ∈ os) (t : T w a b) : H w os a ≠ H w os b := by
  have hab : a ≠ b := (t.rg o).2.2.2.2
  have one : ∀ {a b : Int} {pre post : List Int}, os = pre ++ b :: post → a ∈ pre → T w a b → H w os a ≠ H w os b := by
    intro a b pre post e ha t h
    have h1 := H_eq (w := w) e nd
    have h2 := (leastF_ok (((nearF w b).filter fun q => decide (q ∈ pre)).map (H w os))).2.1
    rw [← h1] at h2
    exact h2 (List.mem_map.mpr ⟨a, List.mem_filter.mpr ⟨(mem_near o).mpr t.symm, by simpa using ha⟩, h⟩)
  obtain ⟨pre, post, e⟩ := List.append_of_mem hb
  by_cases hp : a ∈ pre
  · exact one e hp t
  · obtain ⟨pre2, post2, e2⟩ := List.append_of_mem ha
    have hb2 : b ∈ pre2 := by
      have ha' : a ∈ post := by
        rw [e] at ha
        rcases List.mem_append.mp ha with h | h
        · exact absurd h hp
        · rcases List.mem_cons.mp h with h | h
          · exact absurd h hab
          · exact h
      have hsplit : os = (pre ++ [b]) ++ post := by rw [e]; simp
      obtain ⟨u, v, e3⟩ := List.append_of_mem ha'
      have e4 : os = (pre ++ [b] ++ u) ++ a :: v := by rw [hsplit, e3]; simp
      have : pre2 = pre ++ [b] ++ u := by
        have h5 : pre2 ++ a :: post2 = (pre ++ [b] ++ u) ++ a :: v := by rw [← e2, ← e4]
        have n1 : a ∉ pre2 := fun h => by
          rw [e2, List.nodup_append] at nd
          exact nd.2.2 a h a (by simp) rfl
        have n2 : a ∉ pre ++ [b] ++ u := fun h => by
          rw [e4, List.nodup_append] at nd
          exact nd.2.2 a h a (by simp) rfl
        exact split_one h5 n1 n2
      rw [this]; simp
    exact fun h => one e2 hb2 t.symm h.symm
/-! dicts of numbers -/
def dI (m : List (Int × Int)) : D := .dict (m.map fun p => (.int p.1, .int p.2))
theorem look_dI (m : List (Int × Int)) (q : Int) : lookD (m.map fun p => (PyData.int p.1, PyData.int p.2)) (.inl q) = (m.lookup q).map .int := by
  induction m with
  | nil => rfl
  | cons t m ih =>
    obtain ⟨a, b⟩ := t
    unfold lookD at ih ⊢
    by_cases h : a = q
    · subst h; simp [List.lookup, keyB]
    · have h2 : (q == a) = false := by simpa using fun e => h e.symm
      have h3 : keyB (.inl q) (.int a) = false := by simp [keyB, h]
      simp only [List.map_cons, List.find?_cons, h3, List.lookup, h2]
      exact ih
theorem plain_dI (m : List (Int × Int)) : plainM (m.map fun p => (PyData.int p.1, PyData.int p.2)) = true := by cases m <;> rfl
theorem dget_dI {m : List (Int × Int)} {q v : Int} (h : m.lookup q = some v) : dgetD (dI m) (.int q) = some (.int v) := by
  unfold dI
  simp only [dgetD, plain_dI, if_true, keyOf, Option.bind_some, look_dI, h, Option.map_some]
theorem din_dI (m : List (Int × Int)) (q : Int) : dinD (.int q) (dI m) = some (.bool (m.lookup q).isSome) := by
  unfold dI
  simp only [dinD, plain_dI, if_true, keyOf, Option.map_some, look_dI, Option.isSome_map]
theorem dnin_dI (m : List (Int × Int)) (q : Int) : dninD (.int q) (dI m) = some (.bool (!(m.lookup q).isSome)) := by
  unfold dI
  simp only [dninD, plain_dI, if_true, keyOf, Option.map_some, look_dI, Option.isSome_map]
theorem put_dI {m : List (Int × Int)} {q v : Int} (h : m.lookup q = none) : putDD (m.map fun p => (PyData.int p.1, PyData.int p.2)) (.inl q) (.int v) = (m ++ [(q, v)]).map fun p => (PyData.int p.1, PyData.int p.2) := by
  have : ((m.map fun p => (PyData.int p.1, PyData.int p.2)).any fun p => keyB (.inl q) p.1) = false := by
    rw [List.any_eq_false]
    intro x hx
    obtain ⟨t, ht, rfl⟩ := List.mem_map.mp hx
    intro hk
    simp [keyB] at hk
    have h2 : (m.lookup q).isSome = true := by
      clear h hx
      induction m with
      | nil => simp at ht
      | cons u m ih =>
        obtain ⟨a, b⟩ := u
        by_cases e : q == a
        · simp [List.lookup, e]
        · have e' : (q == a) = false := by simpa using e
          simp only [List.lookup, e']
          rcases List.mem_cons.mp ht with z | z
          · subst z; simp at hk e; exact absurd hk.symm e
          · exact ih z
    rw [h] at h2; cases h2
  unfold putDD
  rw [if_neg (by rw [this]; simp)]
  simp [kD]
/-! least_left, laid -/
/-- least_left(numbers): slots 0 numbers:r, 1 found:v; modes ['rd']; answer fz -/
def wb_least_left : WS :=
  (wSeq (wAsg 1 (wC (.int 0)))
    (wSeq (wWhile (tVal (wOp2 inD (wVar 1) (wVar 0))) (wAsg 1 (wOp2 addD (wVar 1) (wC (.int 1)))))
    (wRet (wVar 1))))
def S_least_left : FS := fun ds Post => ∃ ns : List Int, ds = [.list (ns.map .int)] ∧ Post (.int (leastF ns))
theorem m_least_left {rk : RK} : ∀ ds Post, S_least_left ds Post → wb_least_left { nx := fun _ => Post .none ∧ rk = .fz, rt := fun d _ => Post d } (startE 2 ds) := by
  rintro ds Post ⟨ns, rfl, h⟩
  unfold wb_least_left startE
  simp [-Bool.exists_bool, -List.map_map]
  refine whileN_inv (fun e => ∃ k : Nat, e = [some (.list (ns.map .int)), some (.int (k : Int))] ∧ ∀ j : Int, 0 ≤ j → j < (k : Int) → j ∈ ns) (fun e => match e[1]? with | some (some (PyData.int k)) => ((ns.length : Int) + 2 - k).toNat | _ => 0) ?_ ⟨0, rfl, fun j h0 h1 => by omega⟩
  rintro e R ⟨k, rfl, hk⟩ hR
  have hkl : k ≤ ns.length := by
    have := nodup_le (l := irng 0 (k : Int)) (m := ns) ((ints_sorted _ _).imp fun h => by omega) fun x hx => hk x (mem_ints.mp hx).1 (mem_ints.mp hx).2
    rw [ints_len] at this; omega
  have hi : inD (.int (k : Int)) (.list (ns.map .int)) = some (.bool (decide ((k : Int) ∈ ns))) := inD_l (f := PyData.int) (k := 0) eqv_ii (fun _ => lay_int _) _ _
  simp [-Bool.exists_bool, -List.map_map, hi]
  split
  · rename_i hm
    refine hR _ ⟨k + 1, rfl, fun j h0 h1 => ?_⟩ ?_
    · by_cases e : j = (k : Int)
      · rw [e]; exact hm
      · exact hk j h0 (by omega)
    · simp; omega
  · rename_i hm
    rw [leastF_one (by omega) hm hk]
    exact h
/-- laid(web, order): slots 0 web:r, 1 order:r, 2 found:o, 3 place:v, 4 other:v; modes ['rd', 'rd']; answer fz -/
def wb_laid (S_least_left : FS) (S_near : FS) : WS :=
  (wSeq (wAsg 2 (wC (.dict [])))
    (wSeq (wFor (wiSeq (wVar 1)) (gN 3) (wDput 2 (wCall S_least_left (waCons (wComp (wiSeq (wCall S_near (waCons (wVar 0) (waCons (wVar 3) waNil)))) (gN 4) [4] (tVal (wOp2 dinD (wVar 4) (wVar 2))) (wOp2 dgetD (wVar 2) (wVar 4))) waNil)) (wVar 3)))
    (wRet (wBlt tupD (waCons (wComp (wiRg1 (wOp2 ixD (wVar 0) (wC (.int 0)))) (gN 3) [3] G7.tYes (wOp2 dgetD (wVar 2) (wVar 3))) waNil)))))
def huesF (w : Web) (os : List Int) : List Int := (irng 0 w.n).map (H w os)
def S_laid : FS := fun ds Post => ∃ w os, ds = [dW w, .tuple ((os : List Int).map .int)] ∧ w.ok ∧ os.Perm (irng 0 w.n) ∧ Post (.tuple ((huesF w os).map .int))
theorem m_laid {rk : RK} : ∀ ds Post, S_laid ds Post → wb_laid S_least_left S_near { nx := fun _ => Post .none ∧ rk = .fz, rt := fun d _ => Post d } (startE 5 ds) := by
  rintro ds Post ⟨w, os, rfl, o, hp, h⟩
  have n1 := o.n1
  have n9 := o.n9
  have hlen := hp.length_eq
  rw [ints_len] at hlen
  have nd : os.Nodup := hp.nodup_iff.mpr ((ints_sorted _ _).imp fun h => by omega)
  have h0 : ixD (dW w) (.int 0) = some (.int w.n) := rfl
  unfold wb_laid startE
  simp [-Bool.exists_bool, -List.map_map]
  refine forL_inv (fun i e => ∃ X, e = [some (dW w), some (.tuple (os.map .int)), some (dI (hueM w (os.take i) [])), X, none] ∧ (hueM w (os.take i) []).length = i) ⟨none, rfl, rfl⟩ ?_ ?_
  · rintro i e x R hx ⟨X, rfl, hl⟩ hR
    obtain ⟨p, hpi, rfl⟩ : ∃ p, os[i]? = some p ∧ PyData.int p = x := by
      rw [List.getElem?_map] at hx
      simpa using hx
    refine ⟨_, rfl, ?_⟩
    have hnot : (hueM w (os.take i) []).lookup p = none := by
      have := hueM_keys w (os.take i) [] p
      cases h : (hueM w (os.take i) []).lookup p with
      | none => rfl
      | some x =>
        rw [h] at this
        simp at this
        obtain ⟨hi, e⟩ := List.getElem?_eq_some_iff.mp hpi
        obtain ⟨j, hj, e2⟩ := List.getElem_of_mem this
        rw [List.getElem_take] at e2
        rw [List.length_take] at hj
        have := (List.getElem_inj (h₀ := by omega) (h₁ := hi) nd).mp (e2.trans e.symm)
        omega
    have hnext : hueM w (os.take (i + 1)) [] = hueM w (os.take i) [] ++ [(p, leastF (((nearF w p).filter fun q => ((hueM w (os.take i) []).lookup q).isSome).map fun q => ((hueM w (os.take i) []).lookup q).getD 0))] := by
      rw [List.take_succ, hpi, hueM_app]; rfl
    generalize hueM w (os.take i) [] = m at *
    simp [-Bool.exists_bool, -List.map_map, r_comp]
    refine ⟨w, p, rfl, ?_⟩
    simp [-Bool.exists_bool, -List.map_map]
    refine compL_map (fun q => (m.lookup q).isSome) (fun q => .int ((m.lookup q).getD 0)) (fun q hq => ?_) ?_
    · refine ⟨_, rfl, fun R hR => ?_, fun hs R hR => ?_, rfl⟩
      · simp [-Bool.exists_bool, -List.map_map, din_dI]
        exact hR
      · obtain ⟨v, hv⟩ := Option.isSome_iff_exists.mp hs
        rw [hv] at hR
        simp [-Bool.exists_bool, -List.map_map, dget_dI hv]
        exact hR
    · have e0 : ([] : List D) ++ ((nearF w p).filter fun q => (m.lookup q).isSome).map (fun q => PyData.int ((m.lookup q).getD 0)) = (((nearF w p).filter fun q => (m.lookup q).isSome).map fun q => (m.lookup q).getD 0).map .int := by
        rw [List.nil_append, List.map_map]; rfl
      rw [e0]
      refine ⟨_, rfl, ?_⟩
      simp [-Bool.exists_bool, -List.map_map]
      have hi : i < os.length := (List.getElem?_eq_some_iff.mp hpi).1
      refine ⟨⟨_, rfl, plain_dI m⟩, _, rfl, _, rfl, plain_dI m, by rw [List.length_map]; omega, ?_⟩
      rw [put_dI hnot, ← hnext]
      refine hR _ ⟨_, rfl, ?_⟩
      rw [hnext, List.length_append, hl]; rfl
  · rintro e ⟨X, rfl, hl⟩
    rw [List.length_map, List.take_length]
    simp [-Bool.exists_bool, -List.map_map, r_comp, h0]
    refine ⟨by omega, by omega, ?_⟩
    rw [rangeD_ints]
    refine compL_map (fun _ => true) (fun q => .int (H w os q)) (fun q hq => ?_) ?_
    · refine ⟨_, rfl, fun R hR => hR, fun _ R hR => ?_, rfl⟩
      have hk := hueM_keys w os [] q
      have hq' : q ∈ os := hp.mem_iff.mpr hq
      simp only [List.lookup, Option.isSome_none, Bool.false_or, hq', decide_true] at hk
      obtain ⟨v, hv⟩ := Option.isSome_iff_exists.mp hk
      have hH : H w os q = v := by unfold H; rw [hv]; rfl
      rw [hH] at hR
      simp [-Bool.exists_bool, -List.map_map, dget_dI hv]
      exact hR
    · have e0 : ([] : List D) ++ ((irng 0 w.n).filter fun _ => true).map (fun q => PyData.int (H w os q)) = (huesF w os).map .int := by
        rw [List.nil_append, List.filter_eq_self.mpr (by simp)]; unfold huesF; rw [List.map_map]; rfl
      rw [e0]
      exact h
/-! the order by its hues -/
theorem find_at {p : Int} : ∀ {pre post : List Int}, p ∉ pre → (((pre ++ p :: post).map PyData.int).findIdx? fun z => PyData.eqv z (.int p)) = some pre.length
  | [], post, _ => by simp [List.findIdx?_cons]
  | x :: pre, post, h => by
    have hx : ¬ x = p := fun e => h (by simp [e])
    have := find_at (p := p) (pre := pre) (post := post) fun z => h (by simp [z])
    simp only [List.cons_append, List.map_cons, List.findIdx?_cons, eqv_ii, hx, decide_false]
    rw [this]; simp
theorem index_xt {os pre post : List Int} {p : Int} (e : os = pre ++ p :: post) (h : p ∉ pre) : indexD (xtD (os.map .int)) (.int p) = some (.int (pre.length : Int)) := by
  subst e
  have h1 : okD (.tuple ((pre ++ p :: post).map .int)) = true := lay_ok (k := 1) (lay_tup (lay_ints _))
  show (if okD (.tuple ((pre ++ p :: post).map .int)) = true ∧ okD (.int p) = true then idxD _ _ else none) = _
  rw [if_pos ⟨h1, okD_i p⟩]
  unfold idxD
  rw [find_at h]; rfl
theorem filt_split (f : Int → Int) (k : Nat) : ∀ l : List Int, (l.filter fun p => decide (f p < ((k + 1 : Nat) : Int))).Perm ((l.filter fun p => decide (f p < (k : Int))) ++ l.filter fun p => decide (f p = (k : Int)))
  | [] => List.Perm.refl _
  | x :: l => by
    have ih := filt_split f k l
    by_cases h1 : f x < (k : Int)
    · have h2 : f x < ((k + 1 : Nat) : Int) := by omega
      have h3 : ¬ f x = (k : Int) := by omega
      simp only [List.filter_cons, h1, h2, h3, decide_true, decide_false, if_true, List.cons_append]
      simpa using ih
    · by_cases h3 : f x = (k : Int)
      · have a1 : decide (f x < ((k + 1 : Nat) : Int)) = true := decide_eq_true (by omega)
        have a2 : decide (f x < (k : Int)) = false := decide_eq_false h1
        have a3 : decide (f x = (k : Int)) = true := decide_eq_true h3
        rw [List.filter_cons_of_pos (p := fun p => decide (f p < ((k + 1 : Nat) : Int))) a1, List.filter_cons_of_neg (p := fun p => decide (f p < (k : Int))) (by rw [a2]; simp), List.filter_cons_of_pos (p := fun p => decide (f p = (k : Int))) a3]
        exact (ih.cons x).trans List.perm_middle.symm
      · have h2 : ¬ f x < ((k + 1 : Nat) : Int) := by omega
        simp only [List.filter_cons, h1, h2, h3, decide_false]
        simpa using ih
def byHue (f : Int → Int) (os : List Int) : Nat → List Int
  | 0 => []
  | k + 1 => byHue f os k ++ os.filter fun p => decide (f p = (k : Int))
theorem byHue_perm (f : Int → Int) (os : List Int) (h0 : ∀ p ∈ os, 0 ≤ f p) : ∀ k : Nat, (byHue f os k).Perm (os.filter fun p => decide (f p < (k : Int)))
  | 0 => by
    have : (os.filter fun p => decide (f p < ((0 : Nat) : Int))) = [] := by
      rw [List.filter_eq_nil_iff]
      intro p hp
      have := h0 p hp
      simp; omega
    rw [this]; exact List.Perm.refl _
  | k + 1 => ((byHue_perm f os h0 k).append_right _).trans (filt_split f k os).symm
theorem byHue_lt (f : Int → Int) (os : List Int) : ∀ (k : Nat) (p : Int), p ∈ byHue f os k → f p < (k : Int)
  | 0, p, h => by simp [byHue] at h
  | k + 1, p, h => by
    unfold byHue at h
    rcases List.mem_append.mp h with h | h
    · have := byHue_lt f os k p h; omega
    · have := (List.mem_filter.mp h).2
      simp at this; omega
theorem byHue_sorted (f : Int → Int) (os : List Int) : ∀ k : Nat, (byHue f os k).Pairwise fun a b => f a ≤ f b
  | 0 => .nil
  | k + 1 => by
    unfold byHue
    rw [List.pairwise_append]
    refine ⟨byHue_sorted f os k, ?_, fun a ha b hb => ?_⟩
    · refine List.Pairwise.imp_of_mem (R := fun _ _ => True) (fun {a b} ha hb _ => ?_) (List.pairwise_of_forall (by simp))
      have h1 := (List.mem_filter.mp ha).2
      have h2 := (List.mem_filter.mp hb).2
      simp at h1 h2; omega
    · have h1 := byHue_lt f os k a ha
      have h2 := (List.mem_filter.mp hb).2
      simp at h2; omega
/-- laid again by the hues, none is greater -/
theorem H_again {w : Web} (o : w.ok) {os ag : List Int} (nd : os.Nodup) (hp : ag.Perm os) (hs : ag.Pairwise fun a b => H w os a ≤ H w os b) : ∀ (n : Nat) {pre post : List Int} {p : Int}, ag = pre ++ p :: post → pre.length = n → H w ag p ≤ H w os p := by
  intro n
  induction n using Nat.strongRecOn with
  | ind n ih =>
    intro pre post p e hl
    have ndg : ag.Nodup := hp.nodup_iff.mpr nd
    have hpm : p ∈ os := hp.mem_iff.mp (by rw [e]; simp)
    rw [H_eq e ndg]
    refine leastF_le (H_nn nd hpm) fun hmem => ?_
    obtain ⟨q, hq, hv⟩ := List.mem_map.mp hmem
    obtain ⟨hq1, hq2⟩ := List.mem_filter.mp hq
    have hq2 : q ∈ pre := by simpa using hq2
    obtain ⟨u, v, e2⟩ := List.append_of_mem hq2
    have e3 : ag = u ++ q :: (v ++ p :: post) := by rw [e, e2]; simp
    have h1 := ih u.length (by rw [← hl, e2]; simp) e3 rfl
    have hqm : q ∈ os := hp.mem_iff.mp (by rw [e3]; simp)
    have h2 : H w os q ≤ H w os p := by
      rw [e, List.pairwise_append] at hs
      exact hs.2.2 q hq2 p (by simp)
    have h3 := H_ne o nd hqm hpm ((mem_near o).mp hq1).symm
    omega
theorem H_bound {w : Web} (o : w.ok) {os : List Int} (nd : os.Nodup) {p : Int} (h : p ∈ os) : H w os p ≤ 20 := by
  obtain ⟨pre, post, e⟩ := List.append_of_mem h
  have h1 := H_eq (w := w) e nd
  have h2 := (leastF_ok (((nearF w p).filter fun q => decide (q ∈ pre)).map (H w os))).2.2
  rw [← h1] at h2
  have := nodup_le (l := irng 0 (H w os p)) (m := ((nearF w p).filter fun q => decide (q ∈ pre)).map (H w os)) ((ints_sorted _ _).imp fun h => by omega) fun x hx => h2 x (mem_ints.mp hx).1 (mem_ints.mp hx).2
  rw [ints_len, List.length_map] at this
  have h3 := List.length_filter_le (fun q => decide (q ∈ pre)) (nearF w p)
  have h4 : (nearF w p).length ≤ 20 := by
    unfold nearF
    rw [(isort_perm _).length_eq, List.length_map]
    exact Nat.le_trans (List.length_filter_le _ _) o.len
  omega
theorem max_ex {l : List Int} (h : l ≠ []) : ∃ M, maxAD [.tuple (l.map .int)] = some (.int M) ∧ M ∈ l ∧ ∀ y ∈ l, y ≤ M := by
  cases l with
  | nil => exact absurd rfl h
  | cons x t =>
    obtain ⟨h1, h2⟩ := foldl_max x t
    refine ⟨t.foldl max x, ?_, h1, h2⟩
    have := intsD_map (x :: t)
    simp only [maxAD, this, Option.bind_some, maxI, Option.map_some]
end Lib
end G7

/-! dicts of numbers -/
namespace G7
namespace Lib
open PySem
abbrev Mp := List (Int × Int)
abbrev gM (m : Mp) (q : Int) : Int := (m.lookup q).getD 0
theorem look_gM {m : Mp} {q : Int} (h : (m.lookup q).isSome = true) : m.lookup q = some (gM m q) := by
  cases e : m.lookup q with
  | none => rw [e] at h; cases h
  | some v => simp [gM, e]
def mput (m : Mp) (q v : Int) : Mp := if (m.lookup q).isSome = true then m.map (fun p => if q = p.1 then (p.1, v) else p) else m ++ [(q, v)]
theorem look_map (m : Mp) (q v r : Int) : (m.map fun p => if q = p.1 then (p.1, v) else p).lookup r = if r = q then (m.lookup r).map (fun _ => v) else m.lookup r := by
  induction m with
  | nil => simp
  | cons p m ih =>
    obtain ⟨a, b⟩ := p
    by_cases c : q = a
    · subst c
      by_cases d : r = q
      · subst d; simp [List.lookup]
      · have : (r == q) = false := by simpa using d
        simp [List.lookup, this, ih, d]
    · by_cases d : r = a
      · subst d
        have : ¬ r = q := fun z => c z.symm
        simp [List.lookup, c, this]
      · have : (r == a) = false := by simpa using d
        simp [List.lookup, this, c, ih]
theorem look_mput (m : Mp) (q v r : Int) : (mput m q v).lookup r = if r = q then some v else m.lookup r := by
  unfold mput
  split
  · rename_i h
    rw [look_map]
    split
    · rename_i e; subst e
      rw [look_gM h]; rfl
    · rfl
  · rename_i h
    rw [lookup_app]
    by_cases e : r = q
    · subst e
      have : m.lookup r = none := by cases c : m.lookup r <;> simp_all
      simp [this]
    · rw [if_neg e, if_neg e]
      cases m.lookup r <;> rfl
theorem len_mput (m : Mp) (q v : Int) : (mput m q v).length ≤ m.length + 1 := by
  unfold mput; split <;> simp
theorem gM_mput (m : Mp) (q v r : Int) : gM (mput m q v) r = if r = q then v else gM m r := by
  unfold gM; rw [look_mput]; split <;> rfl
theorem some_mput (m : Mp) (q v r : Int) : ((mput m q v).lookup r).isSome = (decide (r = q) || (m.lookup r).isSome) := by
  rw [look_mput]; split <;> simp [*]
theorem any_dI (m : Mp) (q : Int) : ((m.map fun p => (PyData.int p.1, PyData.int p.2)).any fun p => keyB (.inl q) p.1) = (m.lookup q).isSome := by
  have h := look_dI m q
  unfold lookD at h
  have h2 := congrArg Option.isSome h
  rw [Option.isSome_map, Option.isSome_map] at h2
  rw [← h2, List.isSome_find?]
theorem putDD_dI (m : Mp) (q v : Int) : putDD (m.map fun p => (PyData.int p.1, PyData.int p.2)) (.inl q) (.int v) = (mput m q v).map fun p => (PyData.int p.1, PyData.int p.2) := by
  unfold putDD mput
  rw [any_dI]
  split
  · rw [List.map_map, List.map_map]
    refine List.map_congr_left fun p _ => ?_
    simp only [Function.comp, keyB]
    by_cases c : q = p.1
    · simp [c]
    · have : ¬ p.1 = q := fun z => c z.symm
      simp [c, this]
  · simp [kD]
section
variable {e : En} {i : Nat} {nx bk ct : En → Prop} {rt : D → En → Prop} {m : Mp} {q v : Int}
def dputK (i : Nat) (nx : En → Prop) (y j : D) (e : En) : Prop := ∃ k m, keyOf j = some k ∧ e[i]? = some (some (.dict m)) ∧ plainM m = true ∧ m.length < 1000000 ∧ nx (e.set i (some (.dict (putDD m k y))))
def dputK0 (i : Nat) (b : WE) (nx : En → Prop) (y : D) (e : En) : Prop := (∃ m, e[i]? = some (some (.dict m)) ∧ plainM m = true) ∧ b e fun j e2 => dputK i nx y j e2
theorem i_dput {v ix : WE} (k : v e fun y e1 => dputK0 i ix nx y e1) : wDput i v ix ⟨nx, rt, bk, ct⟩ e := k
theorem i_dput0 {ix : WE} {y : D} (h : e[i]? = some (some (dI m))) (k : ix e fun j e2 => dputK i nx y j e2) : dputK0 i ix nx y e := ⟨⟨_, h, plain_dI m⟩, k⟩
theorem i_dput1 (h : e[i]? = some (some (dI m))) (hl : m.length < 1000000) (k : nx (e.set i (some (dI (mput m q v))))) : dputK i nx (.int v) (.int q) e :=
  ⟨.inl q, _, rfl, h, plain_dI m, by rw [List.length_map]; exact hl, by rw [putDD_dI]; exact k⟩
end
/-! dicts with pairs as keys, as sets -/
def dTP (ks : List (Int × Int)) : D := dTD (ks.map fun p => (dP p, .bool true))
def sput (ks : List (Int × Int)) (p : Int × Int) : List (Int × Int) := if p ∈ ks then ks else ks ++ [p]
theorem mem_sput {ks : List (Int × Int)} {p q : Int × Int} : q ∈ sput ks p ↔ q = p ∨ q ∈ ks := by
  unfold sput
  split
  · rename_i h
    constructor
    · exact .inr
    · rintro (rfl | h')
      · exact h
      · exact h'
  · simp [or_comm]
theorem nodup_sput {ks : List (Int × Int)} {p : Int × Int} (h : ks.Nodup) : (sput ks p).Nodup := by
  unfold sput
  split
  · exact h
  · rename_i n
    rw [List.nodup_append]
    exact ⟨h, by simp, fun x hx y hy => by simp at hy; subst hy; rintro rfl; exact n hx⟩
theorem len_sput (ks : List (Int × Int)) (p : Int × Int) : (sput ks p).length ≤ ks.length + 1 := by
  unfold sput; split <;> simp
def kP (p : Int × Int) : List L2.Key := [.inl p.1, .inl p.2]
theorem keyT_dP (p : Int × Int) : keyT (dP p) = some (kP p) := rfl
theorem tD_kP (p : Int × Int) : tD (kP p) = dP p := rfl
theorem kP_inj {p q : Int × Int} : kP p = kP q ↔ p = q := by
  constructor
  · intro h
    simp only [kP, List.cons.injEq, Sum.inl.injEq, and_true] at h
    exact Prod.ext h.1 h.2
  · rintro rfl; rfl
theorem keyTB_dP (p q : Int × Int) : keyTB (kP p) (dP q) = decide (q = p) := by
  unfold keyTB
  rw [keyT_dP]
  simp only [Option.some.injEq, kP_inj]
theorem any_dTP (ks : List (Int × Int)) (p : Int × Int) : ((ks.map fun p => (dP p, PyData.bool true)).any fun z => keyTB (kP p) z.1) = decide (p ∈ ks) := by
  rw [List.any_map, Bool.eq_iff_iff]
  simp only [List.any_eq_true, Function.comp, keyTB_dP, decide_eq_true_eq]
  constructor
  · rintro ⟨x, h, rfl⟩; exact h
  · exact fun h => ⟨p, h, rfl⟩
theorem putTD_dTP (ks : List (Int × Int)) (p : Int × Int) : putTD (ks.map fun p => (dP p, PyData.bool true)) (kP p) (.bool true) = (sput ks p).map fun p => (dP p, .bool true) := by
  unfold putTD sput
  rw [any_dTP]
  by_cases h : p ∈ ks
  · simp only [h, decide_true, if_true]
    rw [List.map_map]
    refine List.map_congr_left fun q _ => ?_
    simp only [Function.comp]
    split <;> rfl
  · simp [h, tD_kP]
theorem lookTD_dTP (ks : List (Int × Int)) (p : Int × Int) : (lookTD (ks.map fun p => (dP p, PyData.bool true)) (kP p)).isSome = decide (p ∈ ks) := by
  unfold lookTD
  rw [Option.isSome_map, List.isSome_find?, any_dTP]
theorem dinTD_p (ks : List (Int × Int)) (p : Int × Int) : dinTD (dP p) (dTP ks) = some (.bool (decide (p ∈ ks))) := by
  simp only [dinTD, dTP, dTD, keyT_dP, Option.map_some, lookTD_dTP]
theorem dninTD_p (ks : List (Int × Int)) (p : Int × Int) : dninTD (dP p) (dTP ks) = some (.bool (!decide (p ∈ ks))) := by
  simp only [dninTD, dTP, dTD, keyT_dP, Option.map_some, lookTD_dTP]
theorem lenTD_p (ks : List (Int × Int)) : lenTD [dTP ks] = some (.int ks.length) := by simp [lenTD, dTP]
theorem sortTD_p (ks : List (Int × Int)) : sortTD (dTP ks) = some (LP (psort ks)) := by
  show (pairsD ((ks.map fun p => (dP p, PyData.bool true)).map (·.1))).map _ = _
  rw [List.map_map, show ((fun x : D × D => x.1) ∘ fun p : Int × Int => (dP p, PyData.bool true)) = dP from rfl, pairsD_dP]
  rfl
theorem sortTLD_p (ks : List (Int × Int)) : sortTLD [dTP ks] = some (LP (psort ks)) := sortTD_p ks
section
variable {e : En} {i : Nat} {nx bk ct : En → Prop} {rt : D → En → Prop} {ks : List (Int × Int)} {p : Int × Int} {Q : D → En → Prop}
theorem i_keysT (h : e[i]? = some (some (dTP ks))) (k : Q (LP (psort ks)) e) : wKeysT i e Q := ⟨_, _, h, sortTD_p ks, k⟩
def dputTK (i : Nat) (nx : En → Prop) (y j : D) (e : En) : Prop := ∃ k m, keyT j = some k ∧ e[i]? = some (some (dTD m)) ∧ m.length < 1000000 ∧ nx (e.set i (some (dTD (putTD m k y))))
def dputTK0 (i : Nat) (b : WE) (nx : En → Prop) (y : D) (e : En) : Prop := (∃ m, e[i]? = some (some (dTD m))) ∧ b e fun j e2 => dputTK i nx y j e2
theorem i_dputT {v ix : WE} (k : v e fun y e1 => dputTK0 i ix nx y e1) : wDputT i v ix ⟨nx, rt, bk, ct⟩ e := k
theorem i_dputT0 {ix : WE} {y : D} (h : e[i]? = some (some (dTP ks))) (k : ix e fun j e2 => dputTK i nx y j e2) : dputTK0 i ix nx y e := ⟨⟨_, h⟩, k⟩
theorem i_dputT1 (h : e[i]? = some (some (dTP ks))) (hl : ks.length < 1000000) (k : nx (e.set i (some (dTP (sput ks p))))) : dputTK i nx (.bool true) (dP p) e :=
  ⟨kP p, _, keyT_dP p, h, by rw [List.length_map]; exact hl, by rw [putTD_dTP]; exact k⟩
end
end Lib
end G7

/-! hues: readings of the laws k11, k12 -/
namespace G7

local macro_rules | `(tactic| walk_at "op") => `(tactic| first
  | with_reducible exact addD_i _ _ | with_reducible exact subD_i _ _ | with_reducible exact ltD_i _ _ | with_reducible exact leD_i _ _ | with_reducible exact gtD_i _ _ | with_reducible exact geD_i _ _
  | with_reducible exact eqD_i _ _ | with_reducible exact neD_i _ _ | with_reducible exact lenD_lm | with_reducible exact lenD_tm | with_reducible exact lenD_l _ | with_reducible exact lenD_t _ | with_reducible exact dP_0 _ | with_reducible exact dP_1 _
  | with_reducible exact ixD_t0 _ _ | with_reducible exact ixD_t1 _ _ _ | with_reducible exact ixD_t2 _ _ _ _ | with_reducible exact ixD_l0 _ _ | with_reducible exact ixD_l0m | with_reducible exact ixD_t0m | exact eqD_sT | exact eqD_sF | exact neD_sT | exact neD_sF | with_reducible exact ixD_l1 _ _ _
  | with_reducible exact Lib.dW_0 _ | with_reducible exact Lib.dW_1 _ | with_reducible exact tupD_l _ | with_reducible exact tupD_t _ | with_reducible exact lstD_l _ | with_reducible exact lstD_t _ | with_reducible exact max2D_i _ _ | with_reducible exact min2D_i _ _
  | with_reducible exact isTD_i | with_reducible exact tupRevD_m | ((with_reducible refine' indexD_li ?_); with_reducible assumption) | ((with_reducible refine' indexD_xi ?_); with_reducible assumption) | with_reducible exact isTD_s _ _ | with_reducible exact powD_6 | with_reducible exact powD_16 | with_reducible exact powD_18 | with_reducible exact isTD_t _ _ | with_reducible exact isTD_l _ _ | with_reducible exact isTD_b _ _ | with_reducible exact isTD_n _ | with_reducible exact isD_bb _ _ | with_reducible exact isNotD_bb _ _ | with_reducible exact isD_n' _ | with_reducible exact isD_lN _ | with_reducible exact isD_tN _ | with_reducible exact isNotD_lN _ | with_reducible exact isNotD_tN _ | with_reducible exact intD_b _ | with_reducible exact intD_i _ | with_reducible exact negD_i _ | with_reducible exact eqD_b _ _ | with_reducible exact neD_b _ _
  | with_reducible exact neD_l0 _ | with_reducible exact eqD_l0 _ | with_reducible exact eqD_li _ _ | with_reducible exact neD_li _ _ | with_reducible exact eqD_ti _ _ | with_reducible exact neD_ti _ _
  | with_reducible exact eqD_lp _ _ | with_reducible exact neD_lp _ _ | with_reducible exact eqD_tp _ _ | with_reducible exact neD_tp _ _
  | with_reducible exact inD_li _ _ | with_reducible exact inD_ti _ _ | with_reducible exact notInD_li _ _ | with_reducible exact notInD_ti _ _ | with_reducible exact inD_lp _ _ | with_reducible exact inD_tp _ _
  | with_reducible exact notInD_lp _ _ | with_reducible exact notInD_tp _ _ | with_reducible exact inD_lp' _ _ _ | with_reducible exact inD_tp' _ _ _ | with_reducible exact notInD_lp' _ _ _ | with_reducible exact notInD_tp' _ _ _
  | with_reducible exact inD_pair _ _ _ | with_reducible exact sortedAD_i _ | with_reducible exact sortedAD_p _ | with_reducible exact allD_b _ | with_reducible exact anyD_b _
  | ((with_reducible refine' addD_1m ?_); omega) | with_reducible exact Lib.maxAD_0 _ | with_reducible exact Lib.din_dI _ _ | with_reducible exact Lib.dinTD_p _ _ | with_reducible exact Lib.dninTD_p _ _ | with_reducible exact Lib.lenTD_p _ | with_reducible exact Lib.sortTLD_p _ | with_reducible exact Lib.dnin_dI _ _ | ((with_reducible apply Lib.dget_dI); with_reducible assumption) | ((with_reducible refine' repLD_0 ?_ ?_) <;> omega) | ((with_reducible refine' slT_tom ?_); omega) | ((with_reducible refine' slT_frm ?_); omega) | ((with_reducible refine' slL_tom ?_); omega) | ((with_reducible refine' slL_frm ?_); omega) | ((with_reducible refine' modD_i ?_); omega) | ((with_reducible refine' fdivD_i ?_ ?_) <;> omega) | ((with_reducible refine' mulID_i (okMul_l ?_ ?_)) <;> omega) | ((with_reducible refine' mulID_i (okMul_r ?_ ?_)) <;> omega)
  | ((with_reducible refine' ixD_lm ?_ ?_) <;> omega) | ((with_reducible refine' ixD_tm ?_ ?_) <;> omega) | with_reducible assumption)
local macro_rules | `(tactic| walk_at "env") => `(tactic| simp only [List.set_cons_zero, List.set_cons_succ, upd, wp_cons, wp_nil, back_cons, back_nil, List.getElem?_cons_zero, List.getElem?_cons_succ, Option.getD_some, toF])
local macro_rules | `(tactic| walk_at "cond") => `(tactic| first | assumption | omega | exact rfl | (focus (simp; done)))
local macro_rules | `(tactic| walk_at "mut") => `(tactic| first | ((with_reducible refine' popAtF_m ?_ ?_) <;> omega) | ((with_reducible refine' appendF_m ?_); first | omega | (simp only [List.length_append, List.length_map, List.length_cons, List.length_nil]; omega)) | ((with_reducible refine' removeF_i ?_); (first | assumption | (simp; done))) | ((with_reducible refine' extendF_m ?_); first | omega | (simp only [List.length_append, List.length_map, List.length_cons, List.length_nil]; omega)))
local macro_rules | `(tactic| walk_at "s") => `(tactic| first
  | with_reducible refine' i_seq ?_ | ((with_reducible apply i_frz); (exact rfl); (first | exact nt_l | exact nt_d)) | ((with_reducible apply i_asV); (exact rfl)) | ((with_reducible apply i_asO); (exact rfl); (first | exact nt_l | exact nt_d)) | with_reducible refine' i_op2 ?_ | with_reducible refine' i_acons ?_ | with_reducible refine' i_anil ?_ | ((with_reducible apply i_var); exact rfl) | with_reducible refine' i_c ?_
  | with_reducible refine' i_asg ?_ | with_reducible refine' i_par ?_ | with_reducible refine' i_par2 ?_ | with_reducible refine' i_call ?_ | with_reducible refine' i_blt ?_ | with_reducible refine' i_op1 ?_ | with_reducible refine' i_tup ?_ | with_reducible refine' i_list ?_
  | ((with_reducible apply i_ex); walk_at "op") | ((with_reducible apply i_exk); walk_at "op")
  | with_reducible refine' i_val ?_ | with_reducible refine' i_exb ?_ | with_reducible refine' i_if ?_ | with_reducible refine' i_ret ?_ | with_reducible refine' i_nil ?_
  | with_reducible refine' i_T ?_ | with_reducible refine' i_F ?_ | with_reducible refine' i_tand ?_ | with_reducible refine' i_tor ?_ | with_reducible refine' i_tnot ?_ | with_reducible refine' i_yes ?_
  | with_reducible refine' i_and ?_ | with_reducible refine' i_or ?_ | with_reducible refine' i_not ?_ | with_reducible refine' i_ife ?_ | with_reducible refine' i_chain ?_
  | with_reducible refine' i_comp ?_ | with_reducible refine' i_iseq ?_ | with_reducible refine' i_irg1 ?_ | with_reducible refine' i_irg2 ?_ | with_reducible refine' i_izip ?_ | with_reducible refine' i_zipT ?_ | with_reducible refine' i_zipL ?_ | with_reducible refine' i_ienum ?_ | ((with_reducible apply i_enum); exact rfl) | with_reducible refine' i_irev ?_
  | with_reducible refine' i_for ?_ | with_reducible refine' i_lstrg ?_ | with_reducible refine' i_asgG ?_ | with_reducible refine' i_asgP ?_ | with_reducible refine' i_expr ?_ | with_reducible refine' i_retN ?_ | with_reducible refine' i_brk ?_ | with_reducible refine' i_cnt ?_
  | with_reducible refine' i_on ?_ | with_reducible refine' i_os ?_ | with_reducible refine' i_sl ?_ | ((with_reducible apply i_exl); exact rfl)
  | ((with_reducible refine' i_rg1 ?_ ?_); (constructor <;> omega)) | ((with_reducible refine' i_rg2 ?_ ?_); (refine ⟨?_, ?_, ?_, ?_⟩ <;> omega))
  | with_reducible refine' i_exi ?_
  | (with_reducible refine' i_len (Nat.le_of_ble_eq_true rfl) ?_)
  | ((with_reducible apply i_g); exact rfl) | ((with_reducible refine' i_plix ?_ ?_); exact rfl) | with_reducible refine' i_plset ?_ | with_reducible refine' i_np ?_
  | with_reducible refine' i_idxL ?_ | with_reducible refine' i_idl ?_ | with_reducible refine' i_idx ?_
  | ((with_reducible apply i_mut1); (exact rfl); walk_at "mut")
  | ((with_reducible apply Lib.i_keysT); exact rfl) | (with_reducible refine' Lib.i_dputT ?_) | ((with_reducible apply Lib.i_dputT0); exact rfl) | ((with_reducible apply Lib.i_dputT1); (exact rfl); omega)
  | (with_reducible refine' Lib.i_dput ?_) | ((with_reducible apply Lib.i_dput0); exact rfl) | ((with_reducible apply Lib.i_dput1); (exact rfl); omega)
  | ((with_reducible refine' i_dT ?_ ?_); walk_at "cond") | ((with_reducible refine' i_dF ?_ ?_); walk_at "cond") | ((with_reducible refine' i_ndT ?_ ?_); walk_at "cond") | ((with_reducible refine' i_ndF ?_ ?_); walk_at "cond")
  | ((with_reducible refine' i_bT ?_ ?_); (first | with_reducible assumption | exact rfl)) | ((with_reducible refine' i_bF ?_ ?_); (first | with_reducible assumption | exact rfl))
  | ((with_reducible apply i_setixm); (exact rfl); omega; omega) | (with_reducible refine' i_setix ?_) | ((with_reducible apply i_setix0); exact rfl) | ((with_reducible apply i_mut); exact rfl))
local macro_rules | `(tactic| walk_at "run") => `(tactic| (repeat (walk_at "s")); try walk_at "env")
local macro_rules | `(tactic| walk_at "start") => `(tactic| simp only [startE, List.map_cons, List.map_nil, List.length_cons, List.length_nil, Nat.reduceAdd, Nat.reduceSub, Nat.zero_add, List.replicate_succ, List.replicate_zero, List.cons_append, List.nil_append])
local macro_rules | `(tactic| walk_at "len") => `(tactic| first | omega | (simp only [List.length_map, List.length_append, List.length_cons, List.length_nil]; omega) | (refine Nat.le_trans ?_ (Nat.le_refl _); have := List.length_filter_le; simp_all; done))
local macro_rules | `(tactic| walk_at "opl") => `(tactic| first | ((with_reducible refine' addD_lm ?_); walk_at "len") | ((with_reducible refine' addD_tm ?_); walk_at "len") | ((with_reducible refine' addLD_lm ?_); walk_at "len"))
/-- a comprehension: of what is walked itself, of ints, pairs, truths -/
local macro_rules | `(tactic| walk_at "comp") => `(tactic| first
  | (refine comp_fil ?_ (fun x hx => ?_) ?_; rotate_left 1; focus ((try have hx1 := Fact.use (by assumption) hx); (try have hx2 := mem_ints.mp hx); (try dsimp only at hx1); refine ⟨_, rfl, fun R hR => ?_, fun hp R hR => ?_, rfl⟩ <;> (repeat (walk_at "s")) <;> exact hR))
  | (refine comp_all (en2 := PySem.PyData.int) ?_ (fun x hx => ?_) ?_; rotate_left 1; focus ((try have hx1 := Fact.use (by assumption) hx); (try have hx2 := mem_ints.mp hx); (try dsimp only at hx1); refine ⟨_, rfl, fun R hR => ?_, rfl⟩ <;> (repeat (walk_at "s")) <;> exact hR))
  | (refine comp_all (en2 := PySem.PyData.bool) ?_ (fun x hx => ?_) ?_; rotate_left 1; focus ((try have hx1 := Fact.use (by assumption) hx); (try have hx2 := mem_ints.mp hx); (try dsimp only at hx1); refine ⟨_, rfl, fun R hR => ?_, rfl⟩ <;> (repeat (walk_at "s")) <;> exact hR))
  | (refine comp_all (en2 := dP) ?_ (fun x hx => ?_) ?_; rotate_left 1; focus ((try have hx1 := Fact.use (by assumption) hx); (try have hx2 := mem_ints.mp hx); (try dsimp only at hx1); refine ⟨_, rfl, fun R hR => ?_, rfl⟩ <;> (repeat (walk_at "s")) <;> exact hR))
  | (refine comp_el (en2 := PySem.PyData.int) ?_ ?_ (fun x hx => ?_) ?_; rotate_left 2; focus ((try have hx1 := Fact.use (by assumption) hx); (try have hx2 := mem_ints.mp hx); (try dsimp only at hx1); refine ⟨_, rfl, fun R hR => ?_, fun hp R hR => ?_, rfl⟩ <;> (repeat (walk_at "s")) <;> exact hR))
  | (refine comp_el (en2 := dP) ?_ ?_ (fun x hx => ?_) ?_; rotate_left 2; focus ((try have hx1 := Fact.use (by assumption) hx); (try have hx2 := mem_ints.mp hx); (try dsimp only at hx1); refine ⟨_, rfl, fun R hR => ?_, fun hp R hR => ?_, rfl⟩ <;> (repeat (walk_at "s")) <;> exact hR))
  | (refine comp_el (en2 := PySem.PyData.bool) ?_ ?_ (fun x hx => ?_) ?_; rotate_left 2; focus ((try have hx1 := Fact.use (by assumption) hx); (try have hx2 := mem_ints.mp hx); (try dsimp only at hx1); refine ⟨_, rfl, fun R hR => ?_, fun hp R hR => ?_, rfl⟩ <;> (repeat (walk_at "s")) <;> exact hR))
  | (refine comp_allD (en2 := PySem.PyData.int) ?_ (fun x hx => ?_) ?_; rotate_left 1; focus ((try have hx1 := Fact.use (by assumption) hx); (try dsimp only at hx1); refine ⟨_, rfl, fun R hR => ?_, rfl⟩ <;> (repeat (walk_at "s")) <;> exact hR))
  | (refine comp_allD (en2 := PySem.PyData.bool) ?_ (fun x hx => ?_) ?_; rotate_left 1; focus ((try have hx1 := Fact.use (by assumption) hx); (try dsimp only at hx1); refine ⟨_, rfl, fun R hR => ?_, rfl⟩ <;> (repeat (walk_at "s")) <;> exact hR)))
local macro_rules | `(tactic| walk_at "runc") => `(tactic| (repeat (first | walk_at "s" | walk_at "comp")); try walk_at "env")
namespace Lib
open PySem
/-- hued: slots 0 web:r, 1 hues:r, 2 a:v, 3 b:v; modes ['rd', 'rd']; answer fz -/
def wb_hued : WS :=
  (wRet (wBlt tupD (waCons (wComp (wiSeq (wOp2 ixD (wVar 0) (wC (.int 1)))) (gT [(gN 2), (gN 3)]) [2, 3] G7.tYes (wBlt intD (waCons (wOp2 ltD (wOp2 ixD (wVar 1) (wVar 2)) (wOp2 ixD (wVar 1) (wVar 3))) waNil))) waNil)))
def huedF (w : Web) (h : List Int) : List Int := w.ts.map fun t => if decide (gI h t.1 < gI h t.2) = true then 1 else 0
def S_hued : FS := fun ds Post => ∃ w h, ds = [dW w, TI h] ∧ w.ok ∧ (h.length : Int) = w.n ∧ Post (TI (huedF w h))
theorem m_hued {rk : RK} : ∀ ds Post, S_hued ds Post → wb_hued { nx := fun _ => Post .none ∧ rk = .fz, rt := fun d _ => Post d } (startE 4 ds) := by
  rintro ds Post ⟨w, h, rfl, o, hl, hP⟩
  unfold wb_hued
  have F : Fact w.ts fun t => 0 ≤ t.1 ∧ t.1 < t.2 ∧ t.2 < w.n := o.rg
  walk_at "start"
  walk_at "runc"
  exact hP
/-- _law_arrows: slots 0 web:r, 1 pointing:r, 2 k:v; modes ['rd', 'rd']; answer fz -/
def wb_l_arrows : WS :=
  (wRet (wComp (wiRg1 (wBlt lenD (waCons (wOp2 ixD (wVar 0) (wC (.int 1))) waNil))) (gN 2) [2] G7.tYes (wTup (waCons (wOp2 ixD (wOp2 ixD (wOp2 ixD (wVar 0) (wC (.int 1))) (wVar 2)) (wOp2 subD (wC (.int 1)) (wOp2 ixD (wVar 1) (wVar 2)))) (waCons (wOp2 ixD (wOp2 ixD (wOp2 ixD (wVar 0) (wC (.int 1))) (wVar 2)) (wOp2 ixD (wVar 1) (wVar 2))) waNil)))))
def arrF (w : Web) (p : List Int) : Ar := (irng 0 w.ts.length).map fun k => if gI p k = 1 then w.ts[k.toNat]! else ((w.ts[k.toNat]!).2, (w.ts[k.toNat]!).1)
theorem arrF_eq {w : Web} {p : List Int} (h : isP w p) : arrF w p = arw w p := by
  have hl := arw_len h
  unfold arrF
  unfold arw at hl ⊢
  refine List.ext_getElem (by rw [hl, List.length_map, ints_len]; omega) fun i h1 h2 => ?_
  have hi : i < w.ts.length := by rw [hl] at h2; exact h2
  have hp : i < p.length := by rw [h.1]; exact hi
  rw [List.getElem_map, List.getElem_zipWith]
  have : (irng 0 (w.ts.length : Int))[i]'(by rw [ints_len]; omega) = (i : Int) := by simp [irng]
  rw [this]
  unfold gI
  rw [Int.toNat_natCast, getElem!_pos p i hp, getElem!_pos w.ts i hi]
theorem ixPH (t : Int × Int) {x : Int} (h : x = 0 ∨ x = 1) : ixD (dP t) (.int (1 - x)) = some (.int (if x = 1 then t.1 else t.2)) ∧ ixD (dP t) (.int x) = some (.int (if x = 1 then t.2 else t.1)) := by
  rcases h with rfl | rfl <;> exact ⟨rfl, rfl⟩
def S_l_arrows : FS := fun ds Post => ∃ w p, ds = [dW w, TI p] ∧ w.ok ∧ isP w p ∧ Post (LP (arw w p))
theorem m_l_arrows {rk : RK} : ∀ ds Post, S_l_arrows ds Post → wb_l_arrows { nx := fun _ => Post .none ∧ rk = .fz, rt := fun d _ => Post d } (startE 3 ds) := by
  rintro ds Post ⟨w, p, rfl, o, hp, hP⟩
  unfold wb_l_arrows
  have := o.len
  have hl := hp.1
  walk_at "start"
  walk_at "run"
  refine comp_all (en2 := dP) (fun k => if gI p k = 1 then w.ts[k.toNat]! else ((w.ts[k.toNat]!).2, (w.ts[k.toNat]!).1)) (fun k hk => ?_) ?_
  · have hk2 := mem_ints.mp hk
    have hx := ixPH (w.ts[k.toNat]!) (hp.2 _ (gI_mem (l := p) hk2.1 (by omega)))
    refine ⟨_, rfl, fun R hR => ?_, rfl⟩
    walk_at "run"
    refine i_ex hx.1 ?_
    walk_at "run"
    refine i_ex hx.2 ?_
    walk_at "run"
    split at hR
    · rename_i h1; rw [if_pos h1, if_pos h1]; exact hR
    · rename_i h1; rw [if_neg h1, if_neg h1]; exact hR
  walk_at "run"
  rw [← arrF_eq hp] at hP
  exact hP
/-- _law_led: slots 0 many:r, 1 leads:r, 2 left:v, 3 found:v, 4 going:v, 5 ends:v, 6 ready:v, 7 a:v, 8 b:v, 9 place:v; modes ['rd', 'rd']; answer fz -/
def wb_l_led : WS :=
  (wSeq (wAsg 2 (wLstRg (wiRg1 (wVar 0))))
    (wSeq (wAsg 3 (wList waNil))
    (wSeq (wAsg 4 (wC (.bool true)))
    (wSeq (wWhile (tVal (wVar 4)) (wSeq (wAsg 5 (wComp (wiSeq (wVar 1)) (gT [(gN 7), (gN 8)]) [7, 8] (tVal (wOp2 inD (wVar 7) (wVar 2))) (wVar 8)))
    (wSeq (wAsg 6 (wComp (wiSeq (wVar 2)) (gN 9) [9] (tVal (wOp2 notInD (wVar 9) (wVar 5))) (wVar 9)))
    (wSeq (wAsg 4 (wOp2 neD (wVar 6) (wList waNil)))
    (wSeq (wAsg 3 (wOp2 addD (wVar 3) (wVar 6)))
    (wAsg 2 (wComp (wiSeq (wVar 2)) (gN 9) [9] (tVal (wOp2 notInD (wVar 9) (wVar 6))) (wVar 9))))))))
    (wRet (wOp2 ixD (wList (waCons (wVar 3) (waCons (wC .none) waNil))) (wBlt intD (waCons (wOp2 neD (wVar 2) (wList waNil)) waNil))))))))
theorem part_perm (l : List Int) (p : Int → Bool) {r : List Int} (h : r = l.filter p) : (r ++ l.filter fun x => !decide (x ∈ r)).Perm l := by
  subst h
  have e : l.filter (fun x => !decide (x ∈ l.filter p)) = l.filter fun x => !p x := List.filter_congr fun x hx => by
    simp [List.mem_filter, hx]
  rw [e]
  exact List.filter_append_perm p l
def S_l_led : FS := fun ds Post => ∃ (n : Int) (ls : Ar), ds = [.int n, LP ls] ∧ 0 ≤ n ∧ n ≤ 100 ∧ (∀ t ∈ ls, 0 ≤ t.1 ∧ t.1 < n) ∧
  (∀ o : List Int, o.Perm (irng 0 n) → Topo ls o → Post (LI o)) ∧ (¬ Acyc ls → Post .none)
theorem m_l_led {rk : RK} : ∀ ds Post, S_l_led ds Post → wb_l_led { nx := fun _ => Post .none ∧ rk = .fz, rt := fun d _ => Post d } (startE 10 ds) := by
  rintro ds Post ⟨n, ls, rfl, h0, h1, hr, hP, hN⟩
  unfold wb_l_led
  walk_at "start"
  walk_at "run"
  refine while_st [2, 3, 4, 5, 6] (fun vs => ∃ l f g a b, (f ++ l).Perm (irng 0 n) ∧ Topo ls f ∧ (g = false → ∀ p ∈ l, ∃ a ∈ l, (a, p) ∈ ls) ∧ vs = [some (LI l), some (LI f), some (PyData.bool g), a, b])
    (fun vs => match vs with | some (.list l) :: _ :: some (.bool g) :: _ => 2 * l.length + (if g then 1 else 0) | _ => 0) [_, _, _, _, _] rfl ⟨_, [], _, _, _, .refl _, .nil, by simp, rfl⟩ ?_
  rintro _ ⟨l, f, g, a, b, hp, ht, hg, rfl⟩ R hR
  have hlen := hp.length_eq
  rw [ints_len, List.length_append] at hlen
  walk_at "run"
  cases g
  · walk_at "run"
    by_cases e : l = []
    · subst e
      refine i_ex (z := LI f) rfl (hP f (by simpa using hp) ht)
    · refine i_ex (z := .none) (by simp only [e]; rfl) (hN fun c => ?_)
      obtain ⟨p, hp1, hp2⟩ := c.stuck e
      obtain ⟨a, ha, hb⟩ := hg rfl p hp1
      exact hp2 a ha hb
  walk_at "runc"
  generalize hrd : List.filter (fun x => !decide (x ∈ List.map Prod.snd (List.filter (fun x => decide (x.fst ∈ l)) ls))) l = rd
  have hpp := part_perm l _ hrd.symm
  have hlp := hpp.length_eq
  rw [List.length_append] at hlp
  have hmr : ∀ q, q ∈ rd ↔ q ∈ l ∧ ∀ a ∈ l, (a, q) ∉ ls := fun q => by
    rw [← hrd]
    simp only [List.mem_filter, Bool.not_eq_true', decide_eq_false_iff_not, List.mem_map, decide_eq_true_eq]
    refine and_congr_right fun _ => ⟨fun c a ha hm => c ⟨(a, q), ⟨hm, ha⟩, rfl⟩, ?_⟩
    rintro c ⟨⟨x, y⟩, ⟨h1, h2⟩, rfl⟩
    exact c _ h2 h1
  have hnd : (f ++ l).Nodup := hp.nodup_iff.mpr ((ints_sorted _ _).imp fun h => by omega)
  rw [List.nodup_append] at hnd
  refine i_ex (addD_lm (by omega)) ?_
  walk_at "runc"
  refine hR [_, _, _, _, _] ⟨_, _, _, _, _, ?_, ?_, ?_, rfl⟩ ?_
  · rw [List.append_assoc]
    exact ((hpp.append_left f)).trans hp
  · refine ht.app (by rw [← hrd]; exact hnd.2.1.filter _) (fun q hq c => hnd.2.2 q c q ((hmr q).mp hq).1 rfl) fun q hq a ha => ?_
    have h2 := hr _ ha
    have : a ∈ f ++ l := hp.mem_iff.mpr (mem_ints.mpr h2)
    rcases List.mem_append.mp this with c | c
    · exact c
    · exact absurd ha (((hmr q).mp hq).2 a c)
  · intro e
    have e' : rd = [] := by simpa using e
    intro p hp1
    have hpl : p ∈ l := (List.mem_filter.mp hp1).1
    apply Classical.byContradiction
    intro c
    have : p ∈ rd := (hmr p).mpr ⟨hpl, fun a ha hm => c ⟨a, List.mem_filter.mpr ⟨ha, by simp [e']⟩, hm⟩⟩
    rw [e'] at this
    simp at this
  · simp only [List.length_map]
    by_cases e : rd = []
    · rw [e] at hlp ⊢
      simp only [List.length_nil, Nat.zero_add] at hlp
      simp only [decide_true, Bool.not_true, if_true]
      rw [hlp]; simp
    · have : 0 < rd.length := List.length_pos_iff.mpr e
      simp only [e, decide_false, Bool.not_false, if_true]
      omega
/-- _law_steps: slots 0 web:r, 1 pointing:r, 2 some:v, 3 heights:o, 4 place:v, 5 a:v, 6 b:v; modes ['rd', 'rd']; answer fz -/
def wb_l_steps (S_l_arrows : FS) (S_l_led : FS) : WS :=
  (wSeq (wAsg 2 (wCall S_l_arrows (waCons (wVar 0) (waCons (wVar 1) waNil))))
    (wSeq (wAsg 3 (wOp2 repLD (wList (waCons (wC (.int 0)) waNil)) (wOp2 ixD (wVar 0) (wC (.int 0)))))
    (wSeq (wFor (wiSeq (wCall S_l_led (waCons (wOp2 ixD (wVar 0) (wC (.int 0))) (waCons (wVar 2) waNil)))) (gN 4) (wSetIx 3 (wBlt maxAD (waCons (wOp2 addD (wList (waCons (wC (.int 0)) waNil)) (wComp (wiSeq (wVar 2)) (gT [(gN 5), (gN 6)]) [5, 6] (tVal (wOp2 eqD (wVar 6) (wVar 4))) (wOp2 addD (wOp2 ixD (wVar 3) (wVar 5)) (wC (.int 1))))) waNil)) (wVar 4)))
    (wRet (wVar 3)))))
/-- a height told of a place -/
def HtAt (ls : Ar) (h : Int → Int) (q : Int) : Prop := 0 ≤ h q ∧ (∀ a, (a, q) ∈ ls → h a < h q) ∧ (h q = 0 ∨ ∃ a, (a, q) ∈ ls ∧ h a = h q - 1)
def S_l_steps : FS := fun ds Post => ∃ w p, ds = [dW w, TI p] ∧ w.ok ∧ isP w p ∧ Acyc (arw w p) ∧ ∀ hs : List Int, (hs.length : Int) = w.n → IsH (arw w p) (fun q => 0 ≤ q ∧ q < w.n) (gI hs) → Post (LI hs)
theorem m_l_steps {rk : RK} : ∀ ds Post, S_l_steps ds Post → wb_l_steps S_l_arrows S_l_led { nx := fun _ => Post .none ∧ rk = .fz, rt := fun d _ => Post d } (startE 7 ds) := by
  rintro ds Post ⟨w, p, rfl, o, hp, hA, hP⟩
  unfold wb_l_steps
  have h9 := o.n9
  have h1 := o.n1
  have hrg := arw_rg o (p := p)
  have hal := arw_len hp
  have hl20 := o.len
  walk_at "start"
  walk_at "run"
  refine ⟨w, p, rfl, o, hp, ?_⟩
  walk_at "run"
  refine ⟨w.n, _, rfl, by omega, by omega, fun t ht => (hrg t ht).1, fun od hod ht => ?_, fun c => absurd hA c⟩
  walk_at "run"
  generalize arw w p = ls at *
  have hrg2 : ∀ a q, (a, q) ∈ ls → 0 ≤ a ∧ a < w.n := fun a q h => (hrg _ h).1
  refine for_st [3, 4, 5, 6] (fun pre vs => ∃ hs a b c, (hs.length : Int) = w.n ∧ (∀ q ∈ pre, HtAt ls (gI hs) q) ∧ vs = [some (LI hs), a, b, c]) [_, _, _, _] rfl ⟨_, _, _, _, by rw [List.length_replicate]; omega, by simp, rfl⟩ ?_ ?_
  · rintro pre x post _ hL ⟨hs, a, b, c, hl, hh, rfl⟩ R hR
    have hx : x ∈ od := by rw [hL]; simp
    have hxr := mem_ints.mp (hod.mem_iff.mp hx)
    walk_at "run"
    have F : Fact ls fun t => (0 ≤ t.1 ∧ t.1 < w.n) ∧ 0 ≤ t.2 ∧ t.2 < w.n := hrg
    walk_at "runc"
    refine i_ex (addD_1m (f := PyData.int) ?_) ?_
    · rw [List.length_map]
      have := List.length_filter_le (fun t : Int × Int => decide (t.2 = x)) ls
      omega
    walk_at "run"
    generalize hm : max0 _ = v
    have hnx : x ∉ pre := fun c => by
      have := ht.nd
      rw [hL, List.nodup_append] at this
      exact this.2.2 _ c _ (by simp) rfl
    have hg : ∀ q, 0 ≤ q → gI (hs.set x.toNat v) q = if q = x then v else gI hs q := fun q hq => gI_set hxr.1 (by omega) hq
    refine hR [_, _, _, _] ⟨_, _, _, _, by rw [List.length_set]; exact hl, ?_, rfl⟩
    intro q hq
    simp only [List.mem_append, List.mem_singleton] at hq
    have hsame : ∀ a, (a, q) ∈ ls → gI (hs.set x.toNat v) a = gI hs a := fun a ha => by
      have ha2 := hrg2 a q ha
      have : a ∈ pre := by
        rcases hq with hq | rfl
        · obtain ⟨us, vs, e⟩ := List.append_of_mem hq
          have := ht.pr us q (vs ++ x :: post) (by rw [hL, e]; simp) a ha
          rw [e]; simp [this]
        · exact ht.pr pre q post hL a ha
      rw [hg a ha2.1, if_neg (fun c => hnx (by rw [← c]; exact this))]
    have hqr : 0 ≤ q ∧ q < w.n := by
      refine mem_ints.mp (hod.mem_iff.mp ?_)
      rw [hL]
      rcases hq with hq | rfl <;> simp [*]
    have hself : gI (hs.set x.toNat v) q = if q = x then v else gI hs q := hg q hqr.1
    rcases hq with hq | rfl
    · have hqx : q ≠ x := fun c => hnx (by rw [← c]; exact hq)
      rw [if_neg hqx] at hself
      obtain ⟨i1, i2, i3⟩ := hh q hq
      refine ⟨by omega, fun a ha => by rw [hsame a ha, hself]; exact i2 a ha, ?_⟩
      rw [hself]
      rcases i3 with i3 | ⟨a, ha, e⟩
      · exact .inl i3
      · exact .inr ⟨a, ha, by rw [hsame a ha]; exact e⟩
    · rw [if_pos rfl] at hself
      obtain ⟨j1, j2⟩ := max0_ge ((ls.filter fun t => decide (t.2 = q)).map fun t => gI hs t.1 + 1)
      have j3 := max0_mem ((ls.filter fun t => decide (t.2 = q)).map fun t => gI hs t.1 + 1)
      rw [show max0 ((ls.filter fun t => decide (t.2 = q)).map fun t => gI hs t.1 + 1) = v from hm] at j1 j2 j3
      refine ⟨by omega, fun a ha => ?_, ?_⟩
      · rw [hsame a ha, hself]
        have := j2 (gI hs a + 1) (List.mem_map.mpr ⟨(a, q), List.mem_filter.mpr ⟨ha, by simp⟩, rfl⟩)
        omega
      · rw [hself]
        rcases j3 with j3 | j3
        · exact .inl j3
        · obtain ⟨⟨a, b⟩, hab, e⟩ := List.mem_map.mp j3
          obtain ⟨hab2, hb⟩ := List.mem_filter.mp hab
          simp at hb; subst hb
          exact .inr ⟨a, hab2, by rw [hsame a hab2]; simp only at e; omega⟩
  · rintro _ ⟨hs, a, b, c, hl, hh, rfl⟩
    walk_at "run"
    refine hP hs hl ⟨fun q hq => (hh q (hod.mem_iff.mpr (mem_ints.mpr hq))).1, fun a q ha hq => (hh q (hod.mem_iff.mpr (mem_ints.mpr hq))).2.1 a ha, fun q hq => (hh q (hod.mem_iff.mpr (mem_ints.mpr hq))).2.2⟩
/-- is_hues: slots 0 web:r, 1 thing:r, 2 number:v, 3 a:v, 4 b:v; modes ['rd', 'rd']; answer fz -/
def wb_is_hues (S_is_whole : FS) : WS :=
  (wSeq (wIf (tOr (tNot (tVal (wOp1 (isTD "tuple") (wVar 1)))) (tOr (tVal (wOp2 neD (wBlt lenD (waCons (wVar 1) waNil)) (wOp2 ixD (wVar 0) (wC (.int 0))))) (tNot (tVal (wBlt allD (waCons (wComp (wiSeq (wVar 1)) (gN 2) [2] G7.tYes (wCall S_is_whole (waCons (wVar 2) waNil))) waNil)))))) (wRet (wC (.bool false))) wNil)
    (wRet (wBlt allD (waCons (wComp (wiSeq (wOp2 ixD (wVar 0) (wC (.int 1)))) (gT [(gN 3), (gN 4)]) [3, 4] G7.tYes (wOp2 neD (wOp2 ixD (wVar 1) (wVar 3)) (wOp2 ixD (wVar 1) (wVar 4)))) waNil))))
def hok (w : Web) (h : List Int) : Bool := w.ts.all fun t => !decide (gI h t.1 = gI h t.2)
def isHuesB (w : Web) : D → Bool
  | .tuple xs => if (xs.length : Int) = w.n then (match intsD xs with | some h => hok w h | none => false) else false
  | _ => false
theorem tyD_int {x : D} (h : (tyD x == "int") = true) : ∃ i, x = .int i := by
  cases x with
  | int i => exact ⟨i, rfl⟩
  | dict m => unfold tyD at h; split at h <;> first | (exact absurd h (by decide)) | (rename_i e; cases e)
  | _ => exact absurd h (by simp [tyD])
theorem intsD_ty : ∀ {xs : List D}, (xs.map fun x => tyD x == "int").all id = true → ∃ h, intsD xs = some h ∧ xs = h.map .int
  | [], _ => ⟨[], rfl, rfl⟩
  | x :: xs, h => by
    simp only [List.map_cons, List.all_cons, Bool.and_eq_true] at h
    obtain ⟨l, e1, e2⟩ := intsD_ty h.2
    obtain ⟨i, rfl⟩ := tyD_int h.1
    exact ⟨i :: l, by simp [intsD, e1], by rw [e2]; rfl⟩
theorem intsD_no : ∀ {xs : List D}, (xs.map fun x => tyD x == "int").all id = false → intsD xs = none
  | [], h => by simp at h
  | x :: xs, h => by
    simp only [List.map_cons, List.all_cons, Bool.and_eq_false_iff] at h
    cases x <;> simp only [intsD]
    rcases h with h | h
    · simp [tyD] at h
    · rw [intsD_no h]; rfl
def S_is_hues : FS := fun ds Post => ∃ w x, ds = [dW w, x] ∧ w.ok ∧ (tyD x = "tuple" → ∃ xs, x = .tuple xs ∧ xs.length ≤ 1000) ∧ Post (.bool (isHuesB w x))
theorem hok_all (w : Web) (h : List Int) : (w.ts.map fun t => !decide (gI h t.1 = gI h t.2)).all id = hok w h := by
  unfold hok
  rw [List.all_map]; rfl
theorem m_is_hues {rk : RK} : ∀ ds Post, S_is_hues ds Post → wb_is_hues S_l_sound { nx := fun _ => Post .none ∧ rk = .fz, rt := fun d _ => Post d } (startE 5 ds) := by
  rintro ds Post ⟨w, x, rfl, o, hx, hP⟩
  unfold wb_is_hues
  walk_at "start"
  by_cases hT : tyD x = "tuple"
  · obtain ⟨xs, rfl, hlx⟩ := hx hT
    walk_at "run"
    by_cases hl : (xs.length : Int) = w.n
    · walk_at "run"
      refine comp_allD (en2 := .bool) (fun x => tyD x == "int") (fun x _ => ⟨_, rfl, fun R hR => ?_, rfl⟩) ?_
      · walk_at "run"
        exact ⟨x, rfl, hR⟩
      walk_at "run"
      cases hc : (xs.map fun x => tyD x == "int").all id
      · walk_at "run"
        simpa [isHuesB, hl, intsD_no hc] using hP
      · obtain ⟨h, e1, rfl⟩ := intsD_ty hc
        have F : Fact w.ts fun t => 0 ≤ t.1 ∧ t.1 < t.2 ∧ t.2 < w.n := o.rg
        rw [List.length_map] at hl
        walk_at "runc"
        rw [hok_all]
        simpa [isHuesB, hl, e1] using hP
    · walk_at "run"
      simpa [isHuesB, hl] using hP
  · have e1 : isTD "tuple" x = some (.bool false) := by
      cases x <;> first | rfl | (exact absurd rfl hT) | skip
      rename_i m
      simp only [isTD, isT]
      have : (tyD (.dict m) == "tuple") = false := by simpa using hT
      simp [this]
    have e2 : isHuesB w x = false := by
      cases x <;> first | rfl | (exact absurd rfl hT)
    rw [e2] at hP
    walk_at "run"
    exact hP
theorem isHues_ti {w : Web} {h : List Int} (hl : (h.length : Int) = w.n) : isHuesB w (TI h) = hok w h := by
  simp [isHuesB, hl]
/-- _law_near: slots 0 web:r, 1 place:r, 2 a:v, 3 b:v; modes ['rd', 'rd']; answer fz -/
def wb_l_near : WS :=
  (wRet (wComp (wiSeq (wOp2 ixD (wVar 0) (wC (.int 1)))) (gT [(gN 2), (gN 3)]) [2, 3] (tVal (wOp2 inD (wVar 1) (wTup (waCons (wVar 2) (waCons (wVar 3) waNil))))) (wOp2 subD (wOp2 addD (wVar 2) (wVar 3)) (wVar 1))))
def nearU (w : Web) (p : Int) : List Int := (w.ts.filter fun t => decide (p = t.1) || decide (p = t.2)).map fun t => t.1 + t.2 - p
theorem mem_nearU {w : Web} (o : w.ok) {p x : Int} : x ∈ nearU w p ↔ T w p x := by
  rw [← mem_near o]; unfold nearU nearF; exact mem_isort.symm
def S_l_near : FS := fun ds Post => ∃ w p, ds = [dW w, .int p] ∧ Post (LI (nearU w p))
theorem m_l_near {rk : RK} : ∀ ds Post, S_l_near ds Post → wb_l_near { nx := fun _ => Post .none ∧ rk = .fz, rt := fun d _ => Post d } (startE 4 ds) := by
  rintro ds Post ⟨w, p, rfl, h⟩
  unfold wb_l_near
  walk_at "start"
  walk_at "runc"
  exact h
/-- _law_far: slots 0 pool:p, 1 found:v, 2 k:v; modes ['pl']; answer fz -/
def wb_l_far (S_l_next : FS) : WS :=
  (wSeq (wAsg 1 (wC (.int 0)))
    (wSeq (wFor (wiRg1 (wOp2 addD (wC (.int 1)) (wCall S_l_next (waCons (wVar 0) (waCons (wC (.int 3)) waNil))))) (gN 2) (wAsg 1 (wOp2 addD (wOp2 mulID (wVar 1) (wOp2 powD (wC (.int 10)) (wC (.int 6)))) (wCall S_l_next (waCons (wVar 0) (waCons (wOp2 powD (wC (.int 10)) (wC (.int 6))) waNil))))))
    (wRet (wVar 1))))
def S_l_far : FS := fun ds Post => ds = [.none] ∧ ∀ r : Int, Post (.int r)
theorem m_l_far {rk : RK} : ∀ ds Post, S_l_far ds Post → wb_l_far S_l_next { nx := fun _ => Post .none ∧ rk = .fz, rt := fun d _ => Post d } (startE 3 ds) := by
  rintro ds Post ⟨rfl, h⟩
  unfold wb_l_far
  walk_at "start"
  walk_at "run"
  refine next_i (by omega) (by omega) fun r h0 h1 => ?_
  walk_at "run"
  refine for_st [1, 2] (fun _ vs => ∃ a b, vs = [sI a, b]) [_, _] rfl ⟨_, _, rfl⟩ ?_ ?_
  · rintro pre x post _ hL ⟨a, b, rfl⟩ R hR
    walk_at "run"
    refine next_i (by omega) (by omega) fun r h0 h1 => ?_
    walk_at "run"
    exact hR [_, _] ⟨_, _, rfl⟩
  · rintro _ ⟨a, b, rfl⟩
    walk_at "run"
    exact h _
/-- _law_hues: slots 0 pool:p, 1 web:r, 2 order:v, 3 found:o, 4 place:v, 5 barred:v, 6 number:v, 7 by:v, 8 other:v; modes ['pl', 'rd']; answer fz -/
def wb_l_hues (S_l_order : FS) (S_l_near : FS) (S_l_next : FS) (S_l_far : FS) : WS :=
  (wSeq (wAsg 2 (wCall S_l_order (waCons (wVar 0) (waCons (wOp2 ixD (wVar 1) (wC (.int 0))) waNil))))
    (wSeq (wAsg 3 (wC (.dict [])))
    (wSeq (wFor (wiSeq (wVar 2)) (gN 4) (wSeq (wAsg 5 (wComp (wiSeq (wCall S_l_near (waCons (wVar 1) (waCons (wVar 4) waNil)))) (gN 8) [8] (tVal (wOp2 dinD (wVar 8) (wVar 3))) (wOp2 dgetD (wVar 3) (wVar 8))))
    (wSeq (wAsg 6 (wCall S_l_next (waCons (wVar 0) (waCons (wC (.int 3)) waNil))))
    (wSeq (wWhile (tVal (wOp2 inD (wVar 6) (wVar 5))) (wAsg 6 (wOp2 addD (wVar 6) (wC (.int 1)))))
    (wDput 3 (wVar 6) (wVar 4))))))
    (wSeq (wAsg 7 (wOp2 ixD (wList (waCons (wC (.int 1)) (waCons (wOp1 negD (wC (.int 1))) (waCons (wOp2 addD (wC (.int 1)) (wOp2 modD (wCall S_l_far (waCons (wVar 0) waNil)) (wOp2 powD (wC (.int 10)) (wC (.int 16))))) (waCons (wOp2 subD (wOp1 negD (wC (.int 1))) (wOp2 modD (wCall S_l_far (waCons (wVar 0) waNil)) (wOp2 powD (wC (.int 10)) (wC (.int 16))))) waNil))))) (wCall S_l_next (waCons (wVar 0) (waCons (wC (.int 4)) waNil)))))
    (wRet (wBlt tupD (waCons (wComp (wiRg1 (wOp2 ixD (wVar 1) (wC (.int 0)))) (gN 4) [4] G7.tYes (wOp2 mulID (wOp2 dgetD (wVar 3) (wVar 4)) (wVar 7))) waNil)))))))
theorem cnt_lt {bs : List Int} {k : Int} (h : k ∈ bs) : (bs.filter fun z => decide (k + 1 ≤ z)).length < (bs.filter fun z => decide (k ≤ z)).length := by
  have e : (bs.filter fun z => decide (k + 1 ≤ z)) = (bs.filter fun z => decide (k ≤ z)).filter fun z => decide (z ≠ k) := by
    rw [List.filter_filter]
    refine List.filter_congr fun z _ => ?_
    rw [← Bool.decide_and]
    exact decide_eq_decide.mpr (by omega)
  rw [e]
  have h2 : k ∈ bs.filter fun z => decide (k ≤ z) := List.mem_filter.mpr ⟨h, by simp⟩
  refine Nat.lt_of_le_of_ne (List.length_filter_le _ _) fun c => ?_
  have := List.filter_eq_self.mp (List.filter_sublist.eq_of_length c) k h2
  simp at this
def S_l_hues : FS := fun ds Post => ∃ w, ds = [.none, dW w] ∧ w.ok ∧ ∀ h : List Int, (h.length : Int) = w.n → hok w h = true → Post (TI h)
theorem m_l_hues {rk : RK} : ∀ ds Post, S_l_hues ds Post → wb_l_hues S_l_order S_l_near S_l_next S_l_far { nx := fun _ => Post .none ∧ rk = .fz, rt := fun d _ => Post d } (startE 9 ds) := by
  rintro ds Post ⟨w, rfl, o, hP⟩
  have n9 := o.n9
  have n1 := o.n1
  unfold wb_l_hues
  walk_at "start"
  walk_at "run"
  refine ⟨w.n, rfl, by omega, by omega, fun os hos => ?_⟩
  walk_at "run"
  have nd : os.Nodup := hos.nodup_iff.mpr ((ints_sorted _ _).imp fun h => by omega)
  refine for_st [3, 4, 5, 6, 8] (fun pre vs => ∃ (m : Mp) (a b c d : Option D), m.length ≤ pre.length ∧ (∀ q, (m.lookup q).isSome = decide (q ∈ pre)) ∧ (∀ p q, p ∈ pre → q ∈ pre → T w p q → gM m p ≠ gM m q) ∧ vs = [some (dI m), a, b, c, d])
    [_, _, _, _, _] rfl ⟨[], _, _, _, _, by simp, by simp, by simp, rfl⟩ ?_ ?_
  · rintro pre x post _ hL ⟨m, a, b, c, d, hml, hk, hm, rfl⟩ R hR
    have hpl : pre.length ≤ 9 := by
      have := hos.length_eq
      rw [ints_len, hL, List.length_append] at this
      omega
    have hnx : x ∉ pre := fun c => by
      rw [hL, List.nodup_append] at nd
      exact nd.2.2 _ c _ (by simp) rfl
    walk_at "run"
    refine ⟨w, x, rfl, ?_⟩
    walk_at "run"
    refine comp_el (en2 := .int) (fun q => (m.lookup q).isSome) (gM m) (fun q hq => ⟨_, rfl, fun R hR => ?_, fun hp R hR => ?_, rfl⟩) ?_
    · walk_at "run"; exact hR
    · have := look_gM hp
      walk_at "run"; exact hR
    walk_at "run"
    refine next_i (by omega) (by omega) fun r h0 h1 => ?_
    walk_at "run"
    generalize hbs : List.map (gM m) _ = bs
    refine while_st [6] (fun vs => ∃ k : Int, vs = [sI k]) (fun vs => match vs with | [some (.int k)] => (bs.filter fun z => decide (k ≤ z)).length | _ => 0) [_] rfl ⟨_, rfl⟩ ?_
    rintro _ ⟨k, rfl⟩ R2 hR2
    by_cases hkb : k ∈ bs
    · walk_at "run"
      refine hR2 [_] ⟨_, rfl⟩ ?_
      exact cnt_lt hkb
    · walk_at "run"
      refine hR [_, _, _, _, _] ⟨_, _, _, _, _, ?_, ?_, ?_, rfl⟩
      · have := len_mput m x k
        rw [List.length_append]; simp; omega
      · intro q
        rw [some_mput, hk]
        simp [Bool.decide_or, or_comm, Bool.or_comm]
      · have hx : ∀ q, q ∈ pre → T w x q → k ≠ gM m q := fun q hq ht e => by
          refine hkb ?_
          rw [← hbs, e]
          exact List.mem_map.mpr ⟨q, List.mem_filter.mpr ⟨(mem_nearU o).mpr ht, by rw [hk]; simpa using hq⟩, rfl⟩
        intro p q h1 h2 ht
        rw [gM_mput, gM_mput]
        simp only [List.mem_append, List.mem_singleton] at h1 h2
        have hne := (ht.rg o).2.2.2.2
        rcases h1 with h1 | rfl <;> rcases h2 with h2 | rfl
        · rw [if_neg (fun c => hnx (by rw [← c]; exact h1)), if_neg (fun c => hnx (by rw [← c]; exact h2))]
          exact hm p q h1 h2 ht
        · rw [if_neg hne, if_pos rfl]
          exact fun e => hx p h1 ht.symm e.symm
        · rw [if_pos rfl, if_neg (fun c => hne c.symm)]
          exact hx q h2 ht
        · exact absurd rfl hne
  · rintro _ ⟨m, a, b, c, d, hml, hk, hm, rfl⟩
    walk_at "run"
    refine ⟨rfl, fun f1 => ?_⟩
    walk_at "run"
    refine ⟨rfl, fun f2 => ?_⟩
    walk_at "run"
    refine next_i (by omega) (by omega) fun r r0 r1 => ?_
    walk_at "run"
    have hby : ∃ by' : Int, by' ≠ 0 ∧ -18446744073709551616 < by' ∧ by' < 18446744073709551616 ∧ ixD (.list [.int 1, .int (-1), .int (1 + f1 % 10000000000000000), .int (-1 - f2 % 10000000000000000)]) (.int r) = some (.int by') := by
      have : r = 0 ∨ r = 1 ∨ r = 2 ∨ r = 3 := by omega
      rcases this with rfl | rfl | rfl | rfl
      · exact ⟨_, by omega, by omega, by omega, rfl⟩
      · exact ⟨_, by omega, by omega, by omega, rfl⟩
      · exact ⟨_, by omega, by omega, by omega, rfl⟩
      · exact ⟨_, by omega, by omega, by omega, rfl⟩
    obtain ⟨by', b0, b1, b2, hby⟩ := hby
    refine i_ex hby ?_
    walk_at "run"
    have hmem : ∀ q, 0 ≤ q → q < w.n → q ∈ os := fun q h0 h1 => hos.mem_iff.mpr (mem_ints.mpr ⟨h0, h1⟩)
    refine comp_all (en2 := .int) (fun q => gM m q * by') (fun q hq => ?_) ?_
    · have h2 := mem_ints.mp hq
      have := look_gM (m := m) (q := q) (by rw [hk]; simpa using hmem q h2.1 h2.2)
      refine ⟨_, rfl, fun R hR => ?_, rfl⟩
      walk_at "run"
      exact hR
    walk_at "run"
    refine hP _ (by rw [List.length_map, ints_len]; omega) ?_
    unfold hok
    rw [List.all_eq_true]
    intro t ht
    have hr := o.rg t ht
    have hl : ((irng 0 w.n).length : Int) = w.n := by rw [ints_len]; omega
    rw [gI_map hr.1 (by omega), gI_map (j := t.2) (by omega) (by omega), gI_irng hr.1 (by omega), gI_irng (by omega) hr.2.2]
    have := hm t.1 t.2 (hmem _ hr.1 (by omega)) (hmem _ (by omega) hr.2.2) (.inl ht)
    simp only [Bool.not_eq_true', decide_eq_false_iff_not]
    exact fun e => this (Int.eq_of_mul_eq_mul_right b0 e)
theorem hued_isP (w : Web) (h : List Int) : isP w (huedF w h) := by
  unfold huedF
  refine ⟨by simp, fun x hx => ?_⟩
  obtain ⟨t, _, rfl⟩ := List.mem_map.mp hx
  split <;> simp
theorem hued_arw (w : Web) (h : List Int) : arw w (huedF w h) = w.ts.map fun t => if gI h t.1 < gI h t.2 then t else (t.2, t.1) := by
  unfold huedF
  rw [arw_map]
  refine List.map_congr_left fun t _ => ?_
  by_cases c : gI h t.1 < gI h t.2 <;> simp [c]
theorem hok_ne {w : Web} {h : List Int} (hk : hok w h = true) {t : Int × Int} (ht : t ∈ w.ts) : gI h t.1 ≠ gI h t.2 := by
  unfold hok at hk
  have := List.all_eq_true.mp hk t ht
  simpa using this
theorem hued_up {w : Web} {h : List Int} (hk : hok w h = true) {t : Int × Int} (ht : t ∈ arw w (huedF w h)) : gI h t.1 < gI h t.2 := by
  rw [hued_arw] at ht
  obtain ⟨u, hu, rfl⟩ := List.mem_map.mp ht
  have := hok_ne hk hu
  split
  · assumption
  · simp only; omega
theorem hued_acyc {w : Web} {h : List Int} (hk : hok w h = true) : Acyc (arw w (huedF w h)) := ⟨gI h, fun t ht => hued_up hk ht⟩
/-- heights of the fall that hues make: hues that make it again, fewer than unlike hues -/
theorem steps_hok {w : Web} {h hs : List Int} (i : IsH (arw w (huedF w h)) (fun q => 0 ≤ q ∧ q < w.n) (gI hs)) (o : w.ok) : hok w hs = true ∧ huedF w hs = huedF w h := by
  have key : ∀ t ∈ w.ts, (gI hs t.1 < gI hs t.2 ∧ gI h t.1 < gI h t.2) ∨ (gI hs t.2 < gI hs t.1 ∧ ¬ gI h t.1 < gI h t.2) := fun t ht => by
    have hr := o.rg t ht
    by_cases c : gI h t.1 < gI h t.2
    · left
      refine ⟨i.up t.1 t.2 ?_ ⟨by omega, by omega⟩, c⟩
      rw [hued_arw]
      exact List.mem_map.mpr ⟨t, ht, by rw [if_pos c]⟩
    · right
      refine ⟨i.up t.2 t.1 ?_ ⟨by omega, by omega⟩, c⟩
      rw [hued_arw]
      exact List.mem_map.mpr ⟨t, ht, by rw [if_neg c]⟩
  constructor
  · unfold hok
    rw [List.all_eq_true]
    intro t ht
    have := key t ht
    simp only [Bool.not_eq_true', decide_eq_false_iff_not]
    omega
  · unfold huedF
    refine List.map_congr_left fun t ht => ?_
    have := key t ht
    simp only [decide_eq_true_eq]
    rcases this with c | c
    · rw [if_pos c.1, if_pos c.2]
    · rw [if_neg (by omega), if_neg c.2]
theorem filt_lt {l : List Int} {x y : Int} (hx : x ∈ l) (h : x < y) : (l.filter fun z => decide (z < x)).length < (l.filter fun z => decide (z < y)).length := by
  have e : (l.filter fun z => decide (z < x)) = (l.filter fun z => decide (z < y)).filter fun z => decide (z < x) := by
    rw [List.filter_filter]
    refine List.filter_congr fun z _ => ?_
    rw [← Bool.decide_and]
    exact decide_eq_decide.mpr (by omega)
  rw [e]
  refine Nat.lt_of_le_of_ne (List.length_filter_le _ _) fun c => ?_
  have := List.filter_eq_self.mp (List.filter_sublist.eq_of_length c) x (List.mem_filter.mpr ⟨hx, by simpa using h⟩)
  simp at this
theorem steps_few {w : Web} {h hs : List Int} (o : w.ok) (hl : (h.length : Int) = w.n) (hk : hok w h = true) (i : IsH (arw w (huedF w h)) (fun q => 0 ≤ q ∧ q < w.n) (gI hs)) {p : Int} (h0 : 0 ≤ p) (h1 : p < w.n) : gI hs p < ((dedup h).length : Int) := by
  have key : ∀ q, 0 ≤ q → q < w.n → gI h q ∈ dedup h := fun q h0 h1 => mem_dedup.mpr (gI_mem h0 (by omega))
  have := i.least (g := fun q => (((dedup h).filter fun z => decide (z < gI h q)).length : Int)) (arw_rg o) (fun q _ => by omega) (fun a q ha => by
    have hr := arw_rg o _ ha
    have := filt_lt (key a hr.1.1 hr.1.2) (hued_up hk ha)
    simp only at this ⊢; omega) ⟨h0, h1⟩
  have h2 : ((dedup h).filter fun z => decide (z < gI h p)).length < (dedup h).length := by
    refine Nat.lt_of_le_of_ne (List.length_filter_le _ _) fun c => ?_
    have := List.filter_eq_self.mp (List.filter_sublist.eq_of_length c) _ (key p h0 h1)
    simp at this
  omega
/-- _law_right: slots 0 web:r, 1 hues:r, 2 fall:v, 3 due:v, 4 heights:v, 5 a:v, 6 b:v; modes ['rd', 'rd']; answer fz -/
def wb_l_right (S_is_hues : FS) (S_hued : FS) (S_l_led : FS) (S_l_arrows : FS) (S_l_steps : FS) : WS :=
  (wSeq (wIf (tVal (wOp2 isNotD (wCall S_is_hues (waCons (wVar 0) (waCons (wVar 1) waNil))) (wC (.bool true)))) (wRet (wC (.bool false))) wNil)
    (wSeq (wAsg 2 (wCall S_hued (waCons (wVar 0) (waCons (wVar 1) waNil))))
    (wSeq (wAsg 3 (wBlt tupD (waCons (wComp (wiSeq (wOp2 ixD (wVar 0) (wC (.int 1)))) (gT [(gN 5), (gN 6)]) [5, 6] G7.tYes (wOp2 ixD (wList (waCons (wC (.int 0)) (waCons (wC (.int 1)) waNil))) (wBlt intD (waCons (wOp2 ltD (wOp2 ixD (wVar 1) (wVar 5)) (wOp2 ixD (wVar 1) (wVar 6))) waNil)))) waNil)))
    (wSeq (wIf (tOr (tVal (wOp2 neD (wVar 2) (wVar 3))) (tOr (tNot (tVal (wOp1 (isTD "tuple") (wVar 2)))) (tVal (wOp2 isD (wCall S_l_led (waCons (wOp2 ixD (wVar 0) (wC (.int 0))) (waCons (wCall S_l_arrows (waCons (wVar 0) (waCons (wVar 2) waNil))) waNil))) (wC .none))))) (wRet (wC (.bool false))) wNil)
    (wSeq (wAsg 4 (wCall S_l_steps (waCons (wVar 0) (waCons (wVar 2) waNil))))
    (wSeq (wIf (tVal (wOp2 geD (wBlt maxAD (waCons (wVar 4) waNil)) (wOp1 lenSetD (wVar 1)))) (wRet (wC (.bool false))) wNil)
    (wRet (wAnd (wOp2 isD (wCall S_is_hues (waCons (wVar 0) (waCons (wBlt tupD (waCons (wVar 4) waNil)) waNil))) (wC (.bool true))) (wOp2 eqD (wCall S_hued (waCons (wVar 0) (waCons (wBlt tupD (waCons (wVar 4) waNil)) waNil))) (wVar 2))))))))))
def S_l_right : FS := fun ds Post => ∃ w h, ds = [dW w, TI h] ∧ w.ok ∧ (h.length : Int) = w.n ∧ hok w h = true ∧ Post (.bool true)
theorem ix01 (b : Bool) : ixD (.list [.int 0, .int 1]) (.int (if b = true then 1 else 0)) = some (.int (if b = true then 1 else 0)) := by cases b <;> rfl
theorem maxAD_ex {l : List Int} (h : l ≠ []) : ∃ M, maxAD [LI l] = some (.int M) ∧ M ∈ l ∧ ∀ y ∈ l, y ≤ M := by
  obtain ⟨M, h1, h2⟩ := max_ex h
  exact ⟨M, by rw [← h1]; rfl, h2⟩
theorem m_l_right {rk : RK} : ∀ ds Post, S_l_right ds Post → wb_l_right S_is_hues S_hued S_l_led S_l_arrows S_l_steps { nx := fun _ => Post .none ∧ rk = .fz, rt := fun d _ => Post d } (startE 7 ds) := by
  rintro ds Post ⟨w, h, rfl, o, hl, hk, hP⟩
  have n9 := o.n9
  have n1 := o.n1
  unfold wb_l_right
  walk_at "start"
  walk_at "run"
  refine ⟨w, _, rfl, o, fun _ => ⟨_, rfl, by rw [List.length_map]; omega⟩, ?_⟩
  rw [isHues_ti hl, hk]
  walk_at "run"
  refine ⟨w, h, rfl, o, hl, ?_⟩
  walk_at "run"
  have F : Fact w.ts fun t => 0 ≤ t.1 ∧ t.1 < t.2 ∧ t.2 < w.n := o.rg
  refine comp_all (en2 := .int) (fun t => if decide (gI h t.1 < gI h t.2) = true then 1 else 0) (fun t ht => ?_) ?_
  · have := F t ht
    refine ⟨_, rfl, fun R hR => ?_, rfl⟩
    walk_at "run"
    refine i_ex (ix01 _) ?_
    exact hR
  walk_at "run"
  walk_at "run"
  refine ⟨w, _, rfl, o, hued_isP w h, ?_⟩
  walk_at "run"
  refine ⟨w.n, _, rfl, by omega, by omega, fun t ht => (arw_rg o t ht).1, fun od _ _ => ?_, fun c => absurd (hued_acyc hk) c⟩
  walk_at "run"
  refine ⟨w, _, rfl, o, hued_isP w h, hued_acyc hk, fun hs hsl hi => ?_⟩
  have hne : hs ≠ [] := fun c => by subst c; simp at hsl; omega
  obtain ⟨M, hM, hM1, _⟩ := maxAD_ex hne
  have hfew : M < ((dedup h).length : Int) := by
    obtain ⟨i, hi1, e⟩ := List.mem_iff_getElem.mp hM1
    have := steps_few o hl hk hi (p := i) (by omega) (by omega)
    unfold gI at this
    rw [Int.toNat_natCast, getElem!_pos hs i hi1, e] at this
    exact this
  have hset : lenSetD (TI h) = some (.int (dedup h).length) := by
    simp only [lenSetD, intsD_map, Option.bind_some]
    rw [if_pos (by omega)]
  walk_at "run"
  refine ⟨w, _, rfl, o, fun _ => ⟨_, rfl, by rw [List.length_map]; omega⟩, ?_⟩
  obtain ⟨q1, q2⟩ := steps_hok hi o
  rw [isHues_ti hsl, q1]
  walk_at "run"
  refine ⟨w, hs, rfl, o, hsl, ?_⟩
  walk_at "run"
  rw [q2]
  simpa using hP
end Lib
end G7

/-! draws of the laws k17 to k35 -/
namespace G7

local macro_rules | `(tactic| walk_at "op") => `(tactic| first
  | with_reducible exact addD_i _ _ | with_reducible exact subD_i _ _ | with_reducible exact ltD_i _ _ | with_reducible exact leD_i _ _ | with_reducible exact gtD_i _ _ | with_reducible exact geD_i _ _
  | with_reducible exact eqD_i _ _ | with_reducible exact neD_i _ _ | with_reducible exact lenD_lm | with_reducible exact lenD_tm | with_reducible exact lenD_l _ | with_reducible exact lenD_t _ | with_reducible exact dP_0 _ | with_reducible exact dP_1 _
  | with_reducible exact ixD_t0 _ _ | with_reducible exact ixD_t1 _ _ _ | with_reducible exact ixD_t2 _ _ _ _ | with_reducible exact ixD_l0 _ _ | with_reducible exact ixD_l0m | with_reducible exact ixD_t0m | exact eqD_sT | exact eqD_sF | exact neD_sT | exact neD_sF | with_reducible exact ixD_l1 _ _ _
  | with_reducible exact Lib.dW_0 _ | with_reducible exact Lib.dW_1 _ | with_reducible exact tupD_l _ | with_reducible exact tupD_t _ | with_reducible exact lstD_l _ | with_reducible exact lstD_t _ | with_reducible exact max2D_i _ _ | with_reducible exact min2D_i _ _
  | with_reducible exact isTD_i | with_reducible exact tupRevD_m | ((with_reducible refine' indexD_li ?_); with_reducible assumption) | ((with_reducible refine' indexD_xi ?_); with_reducible assumption) | with_reducible exact isTD_s _ _ | with_reducible exact powD_6 | with_reducible exact powD_16 | with_reducible exact powD_18 | with_reducible exact isTD_t _ _ | with_reducible exact isTD_l _ _ | with_reducible exact isTD_b _ _ | with_reducible exact isTD_n _ | with_reducible exact isD_bb _ _ | with_reducible exact isNotD_bb _ _ | with_reducible exact isD_n' _ | with_reducible exact isD_lN _ | with_reducible exact isD_tN _ | with_reducible exact isNotD_lN _ | with_reducible exact isNotD_tN _ | with_reducible exact intD_b _ | with_reducible exact intD_i _ | with_reducible exact negD_i _ | with_reducible exact eqD_b _ _ | with_reducible exact neD_b _ _
  | with_reducible exact neD_l0 _ | with_reducible exact eqD_l0 _ | with_reducible exact eqD_li _ _ | with_reducible exact neD_li _ _ | with_reducible exact eqD_ti _ _ | with_reducible exact neD_ti _ _
  | with_reducible exact eqD_lp _ _ | with_reducible exact neD_lp _ _ | with_reducible exact eqD_tp _ _ | with_reducible exact neD_tp _ _
  | with_reducible exact inD_li _ _ | with_reducible exact inD_ti _ _ | with_reducible exact notInD_li _ _ | with_reducible exact notInD_ti _ _ | with_reducible exact inD_lp _ _ | with_reducible exact inD_tp _ _
  | with_reducible exact notInD_lp _ _ | with_reducible exact notInD_tp _ _ | with_reducible exact inD_lp' _ _ _ | with_reducible exact inD_tp' _ _ _ | with_reducible exact notInD_lp' _ _ _ | with_reducible exact notInD_tp' _ _ _
  | with_reducible exact inD_pair _ _ _ | with_reducible exact sortedAD_i _ | with_reducible exact sortedAD_p _ | with_reducible exact allD_b _ | with_reducible exact anyD_b _
  | ((with_reducible refine' addD_1m ?_); omega) | with_reducible exact Lib.maxAD_0 _ | with_reducible exact Lib.din_dI _ _ | with_reducible exact Lib.dinTD_p _ _ | with_reducible exact Lib.dninTD_p _ _ | with_reducible exact Lib.lenTD_p _ | with_reducible exact Lib.sortTLD_p _ | with_reducible exact Lib.dnin_dI _ _ | ((with_reducible apply Lib.dget_dI); with_reducible assumption) | ((with_reducible refine' repLD_0 ?_ ?_) <;> omega) | ((with_reducible refine' slT_tom ?_); omega) | ((with_reducible refine' slT_frm ?_); omega) | ((with_reducible refine' slL_tom ?_); omega) | ((with_reducible refine' slL_frm ?_); omega) | ((with_reducible refine' modD_i ?_); omega) | ((with_reducible refine' fdivD_i ?_ ?_) <;> omega) | ((with_reducible refine' mulID_i (okMul_l ?_ ?_)) <;> omega) | ((with_reducible refine' mulID_i (okMul_r ?_ ?_)) <;> omega)
  | ((with_reducible refine' ixD_lm ?_ ?_) <;> omega) | ((with_reducible refine' ixD_tm ?_ ?_) <;> omega) | with_reducible assumption)
local macro_rules | `(tactic| walk_at "env") => `(tactic| simp only [List.set_cons_zero, List.set_cons_succ, upd, wp_cons, wp_nil, back_cons, back_nil, List.getElem?_cons_zero, List.getElem?_cons_succ, Option.getD_some, toF])
local macro_rules | `(tactic| walk_at "cond") => `(tactic| first | assumption | omega | exact rfl | (focus (simp; done)))
local macro_rules | `(tactic| walk_at "mut") => `(tactic| first | ((with_reducible refine' popAtF_m ?_ ?_) <;> omega) | ((with_reducible refine' appendF_m ?_); first | omega | (simp only [List.length_append, List.length_map, List.length_cons, List.length_nil]; omega)) | ((with_reducible refine' removeF_i ?_); (first | assumption | (simp; done))) | ((with_reducible refine' extendF_m ?_); first | omega | (simp only [List.length_append, List.length_map, List.length_cons, List.length_nil]; omega)))
local macro_rules | `(tactic| walk_at "s") => `(tactic| first
  | with_reducible refine' i_seq ?_ | ((with_reducible apply i_frz); (exact rfl); (first | exact nt_l | exact nt_d)) | ((with_reducible apply i_asV); (exact rfl)) | ((with_reducible apply i_asO); (exact rfl); (first | exact nt_l | exact nt_d)) | with_reducible refine' i_op2 ?_ | with_reducible refine' i_acons ?_ | with_reducible refine' i_anil ?_ | ((with_reducible apply i_var); exact rfl) | with_reducible refine' i_c ?_
  | with_reducible refine' i_asg ?_ | with_reducible refine' i_par ?_ | with_reducible refine' i_par2 ?_ | with_reducible refine' i_call ?_ | with_reducible refine' i_blt ?_ | with_reducible refine' i_op1 ?_ | with_reducible refine' i_tup ?_ | with_reducible refine' i_list ?_
  | ((with_reducible apply i_ex); walk_at "op") | ((with_reducible apply i_exk); walk_at "op")
  | with_reducible refine' i_val ?_ | with_reducible refine' i_exb ?_ | with_reducible refine' i_if ?_ | with_reducible refine' i_ret ?_ | with_reducible refine' i_nil ?_
  | with_reducible refine' i_T ?_ | with_reducible refine' i_F ?_ | with_reducible refine' i_tand ?_ | with_reducible refine' i_tor ?_ | with_reducible refine' i_tnot ?_ | with_reducible refine' i_yes ?_
  | with_reducible refine' i_and ?_ | with_reducible refine' i_or ?_ | with_reducible refine' i_not ?_ | with_reducible refine' i_ife ?_ | with_reducible refine' i_chain ?_
  | with_reducible refine' i_comp ?_ | with_reducible refine' i_iseq ?_ | with_reducible refine' i_irg1 ?_ | with_reducible refine' i_irg2 ?_ | with_reducible refine' i_izip ?_ | with_reducible refine' i_zipT ?_ | with_reducible refine' i_zipL ?_ | with_reducible refine' i_ienum ?_ | ((with_reducible apply i_enum); exact rfl) | with_reducible refine' i_irev ?_
  | with_reducible refine' i_for ?_ | with_reducible refine' i_lstrg ?_ | with_reducible refine' i_asgG ?_ | with_reducible refine' i_asgP ?_ | with_reducible refine' i_expr ?_ | with_reducible refine' i_retN ?_ | with_reducible refine' i_brk ?_ | with_reducible refine' i_cnt ?_
  | with_reducible refine' i_on ?_ | with_reducible refine' i_os ?_ | with_reducible refine' i_sl ?_ | ((with_reducible apply i_exl); exact rfl)
  | ((with_reducible refine' i_rg1 ?_ ?_); (constructor <;> omega)) | ((with_reducible refine' i_rg2 ?_ ?_); (refine ⟨?_, ?_, ?_, ?_⟩ <;> omega))
  | with_reducible refine' i_exi ?_
  | (with_reducible refine' i_len (Nat.le_of_ble_eq_true rfl) ?_)
  | ((with_reducible apply i_g); exact rfl) | ((with_reducible refine' i_plix ?_ ?_); exact rfl) | with_reducible refine' i_plset ?_ | with_reducible refine' i_np ?_
  | with_reducible refine' i_idxL ?_ | with_reducible refine' i_idl ?_ | with_reducible refine' i_idx ?_
  | ((with_reducible apply i_mut1); (exact rfl); walk_at "mut")
  | ((with_reducible apply Lib.i_keysT); exact rfl) | (with_reducible refine' Lib.i_dputT ?_) | ((with_reducible apply Lib.i_dputT0); exact rfl) | ((with_reducible apply Lib.i_dputT1); (exact rfl); omega)
  | (with_reducible refine' Lib.i_dput ?_) | ((with_reducible apply Lib.i_dput0); exact rfl) | ((with_reducible apply Lib.i_dput1); (exact rfl); omega)
  | ((with_reducible refine' i_dT ?_ ?_); walk_at "cond") | ((with_reducible refine' i_dF ?_ ?_); walk_at "cond") | ((with_reducible refine' i_ndT ?_ ?_); walk_at "cond") | ((with_reducible refine' i_ndF ?_ ?_); walk_at "cond")
  | ((with_reducible refine' i_bT ?_ ?_); (first | with_reducible assumption | exact rfl)) | ((with_reducible refine' i_bF ?_ ?_); (first | with_reducible assumption | exact rfl))
  | ((with_reducible apply i_setixm); (exact rfl); omega; omega) | (with_reducible refine' i_setix ?_) | ((with_reducible apply i_setix0); exact rfl) | ((with_reducible apply i_mut); exact rfl))
local macro_rules | `(tactic| walk_at "run") => `(tactic| (repeat (walk_at "s")); try walk_at "env")
local macro_rules | `(tactic| walk_at "start") => `(tactic| simp only [startE, List.map_cons, List.map_nil, List.length_cons, List.length_nil, Nat.reduceAdd, Nat.reduceSub, Nat.zero_add, List.replicate_succ, List.replicate_zero, List.cons_append, List.nil_append])
local macro_rules | `(tactic| walk_at "len") => `(tactic| first | omega | (simp only [List.length_map, List.length_append, List.length_cons, List.length_nil]; omega) | (refine Nat.le_trans ?_ (Nat.le_refl _); have := List.length_filter_le; simp_all; done))
local macro_rules | `(tactic| walk_at "opl") => `(tactic| first | ((with_reducible refine' addD_lm ?_); walk_at "len") | ((with_reducible refine' addD_tm ?_); walk_at "len") | ((with_reducible refine' addLD_lm ?_); walk_at "len"))
/-- a comprehension: of what is walked itself, of ints, pairs, truths -/
local macro_rules | `(tactic| walk_at "comp") => `(tactic| first
  | (refine comp_fil ?_ (fun x hx => ?_) ?_; rotate_left 1; focus ((try have hx1 := Fact.use (by assumption) hx); (try have hx2 := mem_ints.mp hx); (try dsimp only at hx1); refine ⟨_, rfl, fun R hR => ?_, fun hp R hR => ?_, rfl⟩ <;> (repeat (walk_at "s")) <;> exact hR))
  | (refine comp_all (en2 := PySem.PyData.int) ?_ (fun x hx => ?_) ?_; rotate_left 1; focus ((try have hx1 := Fact.use (by assumption) hx); (try have hx2 := mem_ints.mp hx); (try dsimp only at hx1); refine ⟨_, rfl, fun R hR => ?_, rfl⟩ <;> (repeat (walk_at "s")) <;> exact hR))
  | (refine comp_all (en2 := PySem.PyData.bool) ?_ (fun x hx => ?_) ?_; rotate_left 1; focus ((try have hx1 := Fact.use (by assumption) hx); (try have hx2 := mem_ints.mp hx); (try dsimp only at hx1); refine ⟨_, rfl, fun R hR => ?_, rfl⟩ <;> (repeat (walk_at "s")) <;> exact hR))
  | (refine comp_all (en2 := dP) ?_ (fun x hx => ?_) ?_; rotate_left 1; focus ((try have hx1 := Fact.use (by assumption) hx); (try have hx2 := mem_ints.mp hx); (try dsimp only at hx1); refine ⟨_, rfl, fun R hR => ?_, rfl⟩ <;> (repeat (walk_at "s")) <;> exact hR))
  | (refine comp_el (en2 := PySem.PyData.int) ?_ ?_ (fun x hx => ?_) ?_; rotate_left 2; focus ((try have hx1 := Fact.use (by assumption) hx); (try have hx2 := mem_ints.mp hx); (try dsimp only at hx1); refine ⟨_, rfl, fun R hR => ?_, fun hp R hR => ?_, rfl⟩ <;> (repeat (walk_at "s")) <;> exact hR))
  | (refine comp_el (en2 := dP) ?_ ?_ (fun x hx => ?_) ?_; rotate_left 2; focus ((try have hx1 := Fact.use (by assumption) hx); (try have hx2 := mem_ints.mp hx); (try dsimp only at hx1); refine ⟨_, rfl, fun R hR => ?_, fun hp R hR => ?_, rfl⟩ <;> (repeat (walk_at "s")) <;> exact hR))
  | (refine comp_el (en2 := PySem.PyData.bool) ?_ ?_ (fun x hx => ?_) ?_; rotate_left 2; focus ((try have hx1 := Fact.use (by assumption) hx); (try have hx2 := mem_ints.mp hx); (try dsimp only at hx1); refine ⟨_, rfl, fun R hR => ?_, fun hp R hR => ?_, rfl⟩ <;> (repeat (walk_at "s")) <;> exact hR))
  | (refine comp_allD (en2 := PySem.PyData.int) ?_ (fun x hx => ?_) ?_; rotate_left 1; focus ((try have hx1 := Fact.use (by assumption) hx); (try dsimp only at hx1); refine ⟨_, rfl, fun R hR => ?_, rfl⟩ <;> (repeat (walk_at "s")) <;> exact hR))
  | (refine comp_allD (en2 := PySem.PyData.bool) ?_ (fun x hx => ?_) ?_; rotate_left 1; focus ((try have hx1 := Fact.use (by assumption) hx); (try dsimp only at hx1); refine ⟨_, rfl, fun R hR => ?_, rfl⟩ <;> (repeat (walk_at "s")) <;> exact hR)))
local macro_rules | `(tactic| walk_at "runc") => `(tactic| (repeat (first | walk_at "s" | walk_at "comp")); try walk_at "env")
namespace Lib
open PySem
/-- _law_next: slots 0 pool:p, 1 base:r, 2 digit:v, 3 mixed:v, 4 stir:v; modes ['pl', 'rd']; answer fz -/
def wb_l_nextC : WS :=
  (wSeq (wIf (tVal (wOp2 gtD (wPlIx 0) (wC (.int 0)))) (wSeq (wAsg 2 (wOp2 modD (wPlIx 0) (wVar 1)))
    (wSeq (wPlSet 0 (wOp2 fdivD (wPlIx 0) (wVar 1)))
    (wRet (wVar 2)))) wNil)
    (wSeq (wPlSet 0 (wOp2 addD (wPlIx 0) (wC (.int 1))))
    (wSeq (wAsg 3 (wOp2 modD (wOp2 addD (wPlIx 0) (wOp2 mulID (wC (.int 6053)) (wPlIx 0))) (wC (.int 1000000007))))
    (wSeq (wAsg 4 (wOp2 modD (wOp2 mulID (wOp2 addD (wVar 3) (wC (.int 29))) (wOp2 addD (wVar 3) (wC (.int 91193)))) (wC (.int 998244353))))
    (wRet (wOp2 modD (wOp2 fdivD (wOp2 modD (wOp2 mulID (wVar 4) (wVar 4)) (wC (.int 2147483647))) (wC (.int 16))) (wVar 1)))))))
theorem m_l_nextC {rk : RK} : ∀ ds Post, S_l_next ds Post → wb_l_nextC { nx := fun _ => Post .none ∧ rk = .fz, rt := fun d _ => Post d } (startE 5 ds) := by
  rintro ds Post ⟨b, rfl, h0, h1, h⟩
  unfold wb_l_nextC startE
  have m1 : ∀ x : Int, mulID (.int 6053) (.int x) = some (.int (6053 * x)) := fun x => mulID_i (okMul_l (by omega) (by omega))
  have m2 : ∀ x : Int, mulID (.int (x % 1000000007 + 29)) (.int (x % 1000000007 + 91193)) = some (.int ((x % 1000000007 + 29) * (x % 1000000007 + 91193))) := fun x => mulID_i (okMul_l (by omega) (by omega))
  have m3 : ∀ x : Int, mulID (.int (x % 998244353)) (.int (x % 998244353)) = some (.int ((x % 998244353) * (x % 998244353))) := fun x => mulID_i (okMul_l (by omega) (by omega))
  simp [-Bool.exists_bool, -List.map_map, h0, h1, m1, m2, m3]
  intro x
  split
  · exact fun y => h _ (Int.emod_nonneg _ (by omega)) (Int.emod_lt_of_pos _ h0)
  · exact fun y z => h _ (Int.emod_nonneg _ (by omega)) (Int.emod_lt_of_pos _ h0)
/-- _law_ints: slots 0 some:r, 1 number:v; modes ['rd']; answer fz -/
def wb_l_ints : WS :=
  (wRet (wBlt allD (waCons (wComp (wiSeq (wVar 0)) (gN 1) [1] G7.tYes (wAnd (wOp1 (isTD "int") (wVar 1)) (wNot (wOp1 (isTD "bool") (wVar 1))))) waNil)))
def S_l_ints : FS := fun ds Post => ∃ (x : D) (l : List Int), ds = [x] ∧ seqD x = some (l.map .int) ∧ Post (.bool true)
theorem all_true {α : Type} (l : List α) : (l.map fun _ => true).all id = true := by simp
theorem m_l_ints {rk : RK} : ∀ ds Post, S_l_ints ds Post → wb_l_ints { nx := fun _ => Post .none ∧ rk = .fz, rt := fun d _ => Post d } (startE 2 ds) := by
  rintro ds Post ⟨x, l, rfl, hx, h⟩
  unfold wb_l_ints
  walk_at "start"
  walk_at "run"
  refine i_exl hx ?_
  refine comp_all (en2 := .bool) (fun _ => true) (fun x hx => ⟨_, rfl, fun R hR => ?_, rfl⟩) ?_
  · walk_at "run"; exact hR
  walk_at "run"
  rw [all_true]
  exact h
/-- _law_shuffled: slots 0 pool:p, 1 many:r, 2 left:o, 3 found:o; modes ['pl', 'rd']; answer fz -/
def wb_l_shuffled (S_l_next : FS) : WS :=
  (wSeq (wAsg 2 (wLstRg (wiRg1 (wVar 1))))
    (wSeq (wAsg 3 (wList waNil))
    (wSeq (wWhile (tVal (wOp2 neD (wVar 2) (wList waNil))) (wExpr (wMut 3 appendF (waCons (wMut 2 popAtF (waCons (wCall S_l_next (waCons (wVar 0) (waCons (wBlt lenD (waCons (wVar 2) waNil)) waNil))) waNil)) waNil))))
    (wRet (wVar 3)))))
def S_l_shuffled : FS := fun ds Post => ∃ n : Int, ds = [.none, .int n] ∧ 0 ≤ n ∧ n ≤ 1000 ∧ ∀ ps : List Int, ps.Perm (irng 0 n) → Post (LI ps)
theorem m_l_shuffled {rk : RK} : ∀ ds Post, S_l_shuffled ds Post → wb_l_shuffled S_l_next { nx := fun _ => Post .none ∧ rk = .fz, rt := fun d _ => Post d } (startE 4 ds) := by
  rintro ds Post ⟨n, rfl, h0, h1, h⟩
  unfold wb_l_shuffled
  walk_at "start"
  walk_at "run"
  refine while_st [2, 3] (fun vs => ∃ l f : List Int, (f ++ l).Perm (irng 0 n) ∧ vs = [some (LI l), some (LI f)]) (fun vs => match vs with | some (.list l) :: _ => l.length | _ => 0) [_, _] rfl ⟨_, [], .refl _, rfl⟩ ?_
  rintro _ ⟨l, f, hp, rfl⟩ R hR
  have hlen := hp.length_eq
  rw [ints_len, List.length_append] at hlen
  by_cases e : l = []
  · walk_at "run"
    subst e
    exact h f (by simpa using hp)
  · have hl : 0 < l.length := List.length_pos_iff.mpr e
    walk_at "run"
    refine next_i (by omega) (by omega) fun r r0 r1 => ?_
    walk_at "run"
    have hr : r.toNat < l.length := by omega
    refine hR [_, _] ⟨_, _, ?_, rfl⟩ ?_
    · rw [List.append_assoc, getElem!_pos l r.toNat hr]
      exact ((erase_perm hr).append_left f).trans hp
    · simp only [List.length_map, List.length_eraseIdx]
      rw [if_pos hr]; omega
/-- _law_pair: slots 0 a:r, 1 b:r; modes ['rd', 'rd']; answer fz -/
def wb_l_pair : WS :=
  (wRet (wTup (waCons (wBlt min2D (waCons (wVar 0) (waCons (wVar 1) waNil))) (waCons (wBlt max2D (waCons (wVar 0) (waCons (wVar 1) waNil))) waNil))))
def pr (a b : Int) : Int × Int := (if b < a then b else a, if b > a then b else a)
def S_l_pair : FS := fun ds Post => ∃ a b : Int, ds = [.int a, .int b] ∧ Post (dP (pr a b))
theorem m_l_pair {rk : RK} : ∀ ds Post, S_l_pair ds Post → wb_l_pair { nx := fun _ => Post .none ∧ rk = .fz, rt := fun d _ => Post d } (startE 2 ds) := by
  rintro ds Post ⟨a, b, rfl, h⟩
  unfold wb_l_pair
  walk_at "start"
  walk_at "run"
  exact h
theorem pr_rg {a b n : Int} (ha : 0 ≤ a ∧ a < n) (hb : 0 ≤ b ∧ b < n) (ne : a ≠ b) : 0 ≤ (pr a b).1 ∧ (pr a b).1 < (pr a b).2 ∧ (pr a b).2 < n := by
  unfold pr; simp only; split <;> split <;> omega
/-- _law_web: slots 0 pool:p, 1 most:r, 2 room:r, 3 whole:r, 4 many:v, 5 share:v, 6 ties:o, 7 order:v, 8 k:v, 9 pairs:o, 10 b:v, 11 a:v; modes ['pl', 'rd', 'rd', 'rd']; answer fz -/
def wb_l_webD (S_l_next : FS) (S_l_shuffled : FS) (S_l_pair : FS) : WS :=
  (wSeq (wAsg 4 (wOp2 addD (wC (.int 1)) (wCall S_l_next (waCons (wVar 0) (waCons (wVar 1) waNil)))))
    (wSeq (wAsg 5 (wOp2 ixD (wList (waCons (wC (.int 0)) (waCons (wC (.int 1)) (waCons (wC (.int 2)) (waCons (wC (.int 3)) (waCons (wC (.int 4)) (waCons (wC (.int 6)) waNil))))))) (wCall S_l_next (waCons (wVar 0) (waCons (wC (.int 6)) waNil)))))
    (wSeq (wAsg 6 (wC (dTD [])))
    (wSeq (wAsg 7 (wCall S_l_shuffled (waCons (wVar 0) (waCons (wVar 4) waNil))))
    (wSeq (wIf (tVal (wVar 3)) (wFor (wiRg2 (wC (.int 1)) (wVar 4)) (gN 8) (wDputT 6 (wC (.bool true)) (wCall S_l_pair (waCons (wOp2 ixD (wVar 7) (wVar 8)) (waCons (wOp2 ixD (wVar 7) (wCall S_l_next (waCons (wVar 0) (waCons (wVar 8) waNil)))) waNil))))) wNil)
    (wSeq (wIf (tAnd (tVal (wOp2 gtD (wVar 4) (wC (.int 2)))) (tAnd (tVal (wOp2 leD (wOp2 addD (wBlt lenTD (waCons (wVar 6) waNil)) (wVar 4)) (wVar 2))) (tVal (wOp2 eqD (wCall S_l_next (waCons (wVar 0) (waCons (wC (.int 3)) waNil))) (wC (.int 0)))))) (wFor (wiRg1 (wVar 4)) (gN 8) (wDputT 6 (wC (.bool true)) (wCall S_l_pair (waCons (wOp2 ixD (wVar 7) (wVar 8)) (waCons (wOp2 ixD (wVar 7) (wOp2 subD (wVar 8) (wC (.int 1)))) waNil))))) wNil)
    (wSeq (wAsg 9 (wList waNil))
    (wSeq (wFor (wiRg1 (wVar 4)) (gN 10) (wExpr (wMut 9 extendF (waCons (wComp (wiRg1 (wVar 10)) (gN 11) [11] G7.tYes (wTup (waCons (wVar 11) (waCons (wVar 10) waNil)))) waNil))))
    (wSeq (wFor (wiSeq (wCall S_l_shuffled (waCons (wVar 0) (waCons (wBlt lenD (waCons (wVar 9) waNil)) waNil)))) (gN 8) (wIf (tAnd (tVal (wOp2 ltD (wCall S_l_next (waCons (wVar 0) (waCons (wC (.int 6)) waNil))) (wVar 5))) (tVal (wOp2 ltD (wBlt lenTD (waCons (wVar 6) waNil)) (wVar 2)))) (wDputT 6 (wC (.bool true)) (wOp2 ixD (wVar 9) (wVar 8))) wNil))
    (wRet (wTup (waCons (wVar 4) (waCons (wBlt tupD (waCons (wKeysT 6) waNil)) waNil)))))))))))))
/-- all in one piece -/
def whole (w : Web) : Prop := ∀ p q, 0 ≤ p → p < w.n → 0 ≤ q → q < w.n → Reach w p q
def S_l_webD : FS := fun ds Post => ∃ (m c : Int) (b : Bool), ds = [.none, .int m, .int c, .bool b] ∧ 1 ≤ m ∧ m ≤ 9 ∧ (b = true → m - 1 ≤ c) ∧ 0 ≤ c ∧ c ≤ 20 ∧ ∀ w : Web, w.ok → w.n ≤ m → (w.ts.length : Int) ≤ c → (b = true → whole w) → Post (dW w)
theorem Reach.more {n : Int} {ks ms : List (Int × Int)} (s : ∀ t ∈ ks, t ∈ ms) {p q : Int} (h : Reach ⟨n, ks⟩ p q) : Reach ⟨n, ms⟩ p q := by
  induction h with
  | refl => exact .refl
  | step _ t ih => exact ih.step (t.imp (s _) (s _))
theorem pr_T {n : Int} {ks : List (Int × Int)} {a b : Int} (h : pr a b ∈ ks) : T ⟨n, ks⟩ a b := by
  unfold pr at h
  by_cases c : b < a
  · right
    rw [if_pos c, if_neg (by omega)] at h
    exact h
  · left
    by_cases d : b > a
    · rw [if_neg c, if_pos d] at h; exact h
    · rw [if_neg c, if_neg d] at h
      have : a = b := by omega
      subst this; exact h
theorem good.put {n : Int} {ks : List (Int × Int)} {t : Int × Int} (g : good n ks) (h : 0 ≤ t.1 ∧ t.1 < t.2 ∧ t.2 < n) : good n (sput ks t) :=
  ⟨nodup_sput g.nd, fun u hu => by rcases mem_sput.mp hu with rfl | hu; exact h; exact g.rg u hu⟩
theorem perm_at {os : List Int} {n : Int} (hos : os.Perm (irng 0 n)) {i : Int} (h0 : 0 ≤ i) (h1 : i < n) : 0 ≤ gI os i ∧ gI os i < n := by
  have hl := hos.length_eq
  rw [ints_len] at hl
  exact mem_ints.mp (hos.mem_iff.mp (gI_mem h0 (by omega)))
theorem perm_ne {os : List Int} {n : Int} (hos : os.Perm (irng 0 n)) {i j : Int} (h0 : 0 ≤ i) (h1 : i < n) (h2 : 0 ≤ j) (h3 : j < n) (ne : i ≠ j) : gI os i ≠ gI os j := by
  have hl := hos.length_eq
  rw [ints_len] at hl
  have nd : os.Nodup := hos.nodup_iff.mpr ((ints_sorted _ _).imp fun h => by omega)
  unfold gI
  rw [getElem!_pos os i.toNat (by omega), getElem!_pos os j.toNat (by omega)]
  intro e
  rcases Int.lt_or_gt_of_ne ne with c | c
  · exact List.pairwise_iff_getElem.mp nd i.toNat j.toNat (by omega) (by omega) (by omega) e
  · exact List.pairwise_iff_getElem.mp nd j.toNat i.toNat (by omega) (by omega) (by omega) e.symm
theorem perm_all {os : List Int} {n : Int} (hos : os.Perm (irng 0 n)) {p : Int} (h0 : 0 ≤ p) (h1 : p < n) : ∃ i, 0 ≤ i ∧ i < n ∧ gI os i = p := by
  have hm : p ∈ os := hos.mem_iff.mpr (mem_ints.mpr ⟨h0, h1⟩)
  have hl := hos.length_eq
  rw [ints_len] at hl
  obtain ⟨i, hi, e⟩ := List.mem_iff_getElem.mp hm
  exact ⟨i, by omega, by omega, by unfold gI; rw [Int.toNat_natCast, getElem!_pos os i hi, e]⟩
theorem m_l_webD {rk : RK} : ∀ ds Post, S_l_webD ds Post → wb_l_webD S_l_next S_l_shuffled S_l_pair { nx := fun _ => Post .none ∧ rk = .fz, rt := fun d _ => Post d } (startE 12 ds) := by
  rintro ds Post ⟨m, c, b, rfl, m1, m9, hb, c0, c20, hP⟩
  unfold wb_l_webD
  walk_at "start"
  walk_at "run"
  refine next_i (by omega) (by omega) fun n0 hn0 hn1 => ?_
  obtain ⟨n, rfl⟩ : ∃ n, n0 = n - 1 := ⟨n0 + 1, by omega⟩
  walk_at "run"
  rw [show 1 + (n - 1) = n by omega]
  refine next_i (by omega) (by omega) fun r hr0 hr1 => ?_
  walk_at "run"
  have hsh : ∃ sh, ixD (.list [.int 0, .int 1, .int 2, .int 3, .int 4, .int 6]) (.int r) = some (.int sh) := by
    have : r = 0 ∨ r = 1 ∨ r = 2 ∨ r = 3 ∨ r = 4 ∨ r = 5 := by omega
    rcases this with rfl | rfl | rfl | rfl | rfl | rfl <;> exact ⟨_, rfl⟩
  obtain ⟨sh, hsh⟩ := hsh
  refine i_ex hsh ?_
  walk_at "run"
  refine ⟨n, rfl, by omega, by omega, fun os hos => ?_⟩
  have hol := hos.length_eq
  rw [ints_len] at hol
  walk_at "env"
  refine cut_st [6, 8] (fun vs => ∃ ks x, good n ks ∧ (ks.length : Int) ≤ c ∧ (b = true → ∀ p q, 0 ≤ p → p < n → 0 ≤ q → q < n → Reach ⟨n, ks⟩ p q) ∧ vs = [some (dTP ks), x]) (fun R hR => ?_) ?_
  · walk_at "run"
    cases b with
    | false =>
      walk_at "run"
      exact hR [_, _] ⟨[], _, ⟨by simp, by simp⟩, c0, by simp, rfl⟩
    | true =>
      have hc := hb rfl
      have base : ∀ i : Int, 0 ≤ i → i ≤ (([] : List Int).length : Int) → i < n → Reach ⟨n, []⟩ (gI os 0) (gI os i) := fun i h0 h1 _ => by
        have : i = 0 := by rw [List.length_nil] at h1; omega
        subst this
        exact .refl
      walk_at "run"
      refine for_st [6, 8] (fun pre vs => ∃ ks x, good n ks ∧ ks.length ≤ pre.length ∧ (∀ i : Int, 0 ≤ i → i ≤ pre.length → i < n → Reach ⟨n, ks⟩ (gI os 0) (gI os i)) ∧ vs = [some (dTP ks), x]) [_, _] rfl
        ⟨[], _, ⟨by simp, by simp⟩, by simp, base, rfl⟩ ?_ ?_
      · rintro pre k post _ hL ⟨ks, x, g, hl, hre, rfl⟩ R2 hR2
        have hk := mem_ints.mp (show k ∈ irng 1 n by rw [hL]; simp)
        have hpk : k = 1 + (pre.length : Int) := by
          have h1 := ints_get (lo := 1) (hi := n) (k := pre.length) (by
            have := congrArg List.length hL
            rw [ints_len, List.length_append, List.length_cons] at this; omega)
          rw [hL, List.getElem?_append_right (Nat.le_refl _)] at h1
          simpa using h1
        walk_at "run"
        refine next_i (by omega) (by omega) fun j j0 j1 => ?_
        walk_at "run"
        refine ⟨_, _, rfl, ?_⟩
        walk_at "run"
        have hne := perm_ne hos (i := k) (j := j) (by omega) hk.2 j0 (by omega) (by omega)
        refine hR2 [_, _] ⟨_, _, g.put (pr_rg (perm_at hos (by omega) hk.2) (perm_at hos j0 (by omega)) hne), ?_, ?_, rfl⟩
        · have := len_sput ks (pr (gI os k) (gI os j))
          rw [List.length_append, List.length_singleton]; omega
        · intro i h0 h1 h2
          rw [List.length_append, List.length_singleton] at h1
          have sub : ∀ t ∈ ks, t ∈ sput ks (pr (gI os k) (gI os j)) := fun t ht => mem_sput.mpr (.inr ht)
          by_cases e : i = k
          · subst e
            have hj := (hre j j0 (by omega) (by omega)).more sub
            exact hj.step (pr_T (mem_sput.mpr (.inl rfl))).symm
          · exact (hre i h0 (by omega) h2).more sub
      · rintro _ ⟨ks, x, g, hl, hre, rfl⟩
        walk_at "run"
        rw [ints_len] at hl
        refine hR [_, _] ⟨_, _, g, by omega, fun _ p q p0 p1 q0 q1 => ?_, rfl⟩
        rw [ints_len] at hre
        obtain ⟨i, i0, i1, rfl⟩ := perm_all hos p0 p1
        obtain ⟨j, j0, j1, rfl⟩ := perm_all hos q0 q1
        exact (hre i i0 (by omega) i1).symm.trans (hre j j0 (by omega) j1)
  rintro _ ⟨ks, x, g, hl, hre, rfl⟩
  walk_at "env"
  refine cut_st [6, 8] (fun vs => ∃ ks x, good n ks ∧ (ks.length : Int) ≤ c ∧ (b = true → ∀ p q, 0 ≤ p → p < n → 0 ≤ q → q < n → Reach ⟨n, ks⟩ p q) ∧ vs = [some (dTP ks), x]) (fun R hR => ?_) ?_
  · by_cases h2 : 2 < n
    · by_cases h3 : (ks.length : Int) + n ≤ c
      · walk_at "run"
        refine next_i (by omega) (by omega) fun j j0 j1 => ?_
        by_cases h4 : j = 0
        · walk_at "run"
          refine for_st [6, 8] (fun pre vs => ∃ ks' x, good n ks' ∧ ks'.length ≤ ks.length + pre.length ∧ (∀ t ∈ ks, t ∈ ks') ∧ vs = [some (dTP ks'), x]) [_, _] rfl ⟨ks, _, g, by simp, fun t ht => ht, rfl⟩ ?_ ?_
          · rintro pre k post _ hL ⟨ks', x, g', hl', hs', rfl⟩ R2 hR2
            have hk := mem_ints.mp (show k ∈ irng 0 n by rw [hL]; simp)
            have hpl : pre.length ≤ 9 := by
              have := congrArg List.length hL
              rw [ints_len, List.length_append] at this; omega
            walk_at "run"
            have hix : ∃ j, 0 ≤ j ∧ j < n ∧ j ≠ k ∧ ixD (LI os) (.int (k - 1)) = some (.int (gI os j)) := by
              by_cases c : k = 0
              · subst c
                refine ⟨n - 1, by omega, by omega, by omega, ?_⟩
                have e : ixN (os.map PyData.int).length (0 - 1) = some (n - 1).toNat := by
                  rw [List.length_map]; simp [ixN]; omega
                simp only [ixD, e, Option.bind_some]
                rw [List.getElem?_map, List.getElem?_eq_getElem (by omega)]
                unfold gI
                rw [getElem!_pos os _ (by omega)]; rfl
              · exact ⟨k - 1, by omega, by omega, by omega, ixD_lm (by omega) (by omega)⟩
            obtain ⟨j, j0, j1, jk, hix⟩ := hix
            refine i_ex hix ?_
            walk_at "run"
            refine ⟨_, _, rfl, ?_⟩
            walk_at "run"
            refine hR2 [_, _] ⟨_, _, g'.put (pr_rg (perm_at hos hk.1 hk.2) (perm_at hos j0 j1) (perm_ne hos hk.1 hk.2 j0 j1 (fun z => jk z.symm))), ?_, fun t ht => mem_sput.mpr (.inr (hs' t ht)), rfl⟩
            have := len_sput ks' (pr (gI os k) (gI os j))
            rw [List.length_append, List.length_singleton]; omega
          · rintro _ ⟨ks', x, g', hl', hs', rfl⟩
            walk_at "run"
            rw [ints_len] at hl'
            exact hR [_, _] ⟨_, _, g', by omega, fun hbt p q p0 p1 q0 q1 => (hre hbt p q p0 p1 q0 q1).more hs', rfl⟩
        · walk_at "run"
          exact hR [_, _] ⟨_, _, g, hl, hre, rfl⟩
      · walk_at "run"
        exact hR [_, _] ⟨_, _, g, hl, hre, rfl⟩
    · walk_at "run"
      exact hR [_, _] ⟨_, _, g, hl, hre, rfl⟩
  rintro _ ⟨ks, x, g, hl, hre, rfl⟩
  walk_at "run"
  refine for_st [9, 10] (fun pre vs => ∃ (ps : List (Int × Int)) (x : Option D), (∀ t ∈ ps, 0 ≤ t.1 ∧ t.1 < t.2 ∧ t.2 < n) ∧ (ps.length : Int) ≤ 9 * (pre.length : Int) ∧ vs = [some (LP ps), x]) [_, _] rfl ⟨[], _, by simp, by simp, rfl⟩ ?_ ?_
  · rintro pre k post _ hL ⟨ps, y, hps, hlen, rfl⟩ R hR
    have hk := mem_ints.mp (show k ∈ irng 0 n by rw [hL]; simp)
    have hpl : pre.length ≤ 9 := by
      have := congrArg List.length hL
      rw [ints_len, List.length_append] at this; omega
    walk_at "run"
    refine comp_all (en2 := dP) (fun a => (a, k)) (fun a ha => ⟨_, rfl, fun R hR => ?_, rfl⟩) ?_
    · walk_at "run"; exact hR
    have hil := ints_len 0 k
    walk_at "run"
    refine hR [_, _] ⟨_, _, fun t ht => ?_, ?_, rfl⟩
    · rcases List.mem_append.mp ht with ht | ht
      · exact hps t ht
      · obtain ⟨a, ha, rfl⟩ := List.mem_map.mp ht
        have := mem_ints.mp ha
        simp only; omega
    · rw [List.length_append, List.length_append, List.length_map, hil, List.length_singleton]; omega
  rintro _ ⟨ps, y, hps, hlen, rfl⟩
  rw [ints_len] at hlen
  walk_at "run"
  refine ⟨ps.length, rfl, by omega, by omega, fun qs hqs => ?_⟩
  walk_at "run"
  refine for_st [6, 8] (fun pre vs => ∃ ks x, good n ks ∧ (ks.length : Int) ≤ c ∧ (b = true → ∀ p q, 0 ≤ p → p < n → 0 ≤ q → q < n → Reach ⟨n, ks⟩ p q) ∧ vs = [some (dTP ks), x]) [_, _] rfl ⟨_, _, g, hl, hre, rfl⟩ ?_ ?_
  · rintro pre k post _ hL ⟨ks, x, g, hl, hre, rfl⟩ R hR
    have hk := mem_ints.mp (hqs.mem_iff.mp (show k ∈ qs by rw [hL]; simp))
    walk_at "run"
    refine next_i (by omega) (by omega) fun j j0 j1 => ?_
    by_cases h1 : j < sh
    · by_cases h2 : (ks.length : Int) < c
      · walk_at "run"
        have hm : ps[k.toNat]! ∈ ps := by rw [getElem!_pos ps k.toNat (by omega)]; exact List.getElem_mem _
        refine hR [_, _] ⟨_, _, g.put (hps _ hm), ?_, fun hbt p q p0 p1 q0 q1 => (hre hbt p q p0 p1 q0 q1).more fun t ht => mem_sput.mpr (.inr ht), rfl⟩
        have := len_sput ks (ps[k.toNat]!)
        omega
      · walk_at "run"
        exact hR [_, _] ⟨_, _, g, hl, hre, rfl⟩
    · walk_at "run"
      exact hR [_, _] ⟨_, _, g, hl, hre, rfl⟩
  rintro _ ⟨ks, x, g, hl, hre, rfl⟩
  walk_at "run"
  have hpl := (psort_perm ks).length_eq
  refine hP ⟨n, psort ks⟩ (g.web (by omega) (by omega) (by omega)) (by simp only; omega) (by simp only; omega) fun hbt p q p0 p1 q0 q1 => ?_
  exact (hre hbt p q p0 p1 q0 q1).more fun t ht => (psort_perm ks).mem_iff.mpr ht
/-- _law_fall: slots 0 pool:p, 1 web:r, 2 rank:v, 3 a:v, 4 b:v; modes ['pl', 'rd']; answer fz -/
def wb_l_fallC (S_l_shuffled : FS) : WS :=
  (wSeq (wAsg 2 (wCall S_l_shuffled (waCons (wVar 0) (waCons (wOp2 ixD (wVar 1) (wC (.int 0))) waNil))))
    (wRet (wBlt tupD (waCons (wComp (wiSeq (wOp2 ixD (wVar 1) (wC (.int 1)))) (gT [(gN 3), (gN 4)]) [3, 4] G7.tYes (wBlt intD (waCons (wOp2 ltD (wOp2 ixD (wVar 2) (wVar 3)) (wOp2 ixD (wVar 2) (wVar 4))) waNil))) waNil))))
def S_l_fallC : FS := fun ds Post => ∃ w, ds = [.none, dW w] ∧ w.ok ∧ ∀ p, isP w p → Acyc (arw w p) → Post (TI p)
theorem m_l_fallC {rk : RK} : ∀ ds Post, S_l_fallC ds Post → wb_l_fallC S_l_shuffled { nx := fun _ => Post .none ∧ rk = .fz, rt := fun d _ => Post d } (startE 5 ds) := by
  rintro ds Post ⟨w, rfl, o, hP⟩
  have n1 := o.n1
  have n9 := o.n9
  unfold wb_l_fallC
  walk_at "start"
  walk_at "run"
  refine ⟨w.n, rfl, by omega, by omega, fun rk hrk => ?_⟩
  have hl := hrk.length_eq
  rw [ints_len] at hl
  have F : Fact w.ts fun t => 0 ≤ t.1 ∧ t.1 < t.2 ∧ t.2 < w.n := o.rg
  walk_at "runc"
  have hk : hok w rk = true := by
    unfold hok
    rw [List.all_eq_true]
    intro t ht
    have hr := o.rg t ht
    simp only [Bool.not_eq_true', decide_eq_false_iff_not]
    exact perm_ne hrk hr.1 (by omega) (by omega) hr.2.2 (by omega)
  exact hP (huedF w rk) (hued_isP w rk) (hued_acyc hk)
/-- _law_flows: slots 0 web:r, 1 pointing:r, 2 found:o, 3 k:v, 4 a:v, 5 b:v; modes ['rd', 'rd']; answer fz -/
def wb_l_flows : WS :=
  (wSeq (wAsg 2 (wList waNil))
    (wSeq (wFor (wiEnum (wOp2 ixD (wVar 0) (wC (.int 1)))) (gT [(gN 3), (gT [(gN 4), (gN 5)])]) (wExpr (wMut 2 appendF (waCons (wOp2 ixD (wList (waCons (wTup (waCons (wVar 5) (waCons (wVar 4) waNil))) (waCons (wTup (waCons (wVar 4) (waCons (wVar 5) waNil))) waNil))) (wOp2 ixD (wVar 1) (wVar 3))) waNil))))
    (wRet (wVar 2))))
def S_l_flows : FS := fun ds Post => ∃ w p, ds = [dW w, TI p] ∧ w.ts.length ≤ 1000 ∧ isP w p ∧ Post (LP (arw w p))
theorem arw_take {w : Web} {p : List Int} {i : Nat} (hi : i < w.ts.length) (hp : i < p.length) : (arw w p).take (i + 1) = (arw w p).take i ++ [if p[i] = 1 then w.ts[i] else (w.ts[i].2, w.ts[i].1)] := by
  have hl : i < (arw w p).length := by unfold arw; rw [List.length_zipWith]; omega
  rw [List.take_succ_eq_append_getElem hl]
  simp [arw]
theorem enum_pre {α : Type} [Inhabited α] {L : List α} {pre post : List (Int × α)} {x : Int × α} (h : enumL L = pre ++ x :: post) : x = ((pre.length : Int), L[pre.length]!) ∧ pre.length < L.length := by
  have hl := congrArg List.length h
  unfold enumL at hl
  rw [List.length_zip, ints_len, List.length_append, List.length_cons] at hl
  have hlt : pre.length < L.length := by omega
  refine ⟨?_, hlt⟩
  have h2 : (enumL L)[pre.length]? = some x := by rw [h, List.getElem?_append_right (Nat.le_refl _)]; simp
  unfold enumL at h2
  rw [List.getElem?_zip_eq_some] at h2
  obtain ⟨h3, h4⟩ := h2
  rw [ints_get (by omega)] at h3
  rw [List.getElem?_eq_getElem hlt] at h4
  have h3 := Option.some.inj h3
  have h4 := Option.some.inj h4
  refine Prod.ext ?_ ?_
  · simp only; omega
  · simp only; rw [getElem!_pos L pre.length hlt]; exact h4.symm
theorem m_l_flows {rk : RK} : ∀ ds Post, S_l_flows ds Post → wb_l_flows { nx := fun _ => Post .none ∧ rk = .fz, rt := fun d _ => Post d } (startE 6 ds) := by
  rintro ds Post ⟨w, p, rfl, hw, hp, hP⟩
  unfold wb_l_flows
  have hl := hp.1
  walk_at "start"
  walk_at "run"
  refine for_st [2, 3, 4, 5] (fun pre vs => ∃ l a b c, l = (arw w p).take pre.length ∧ vs = [some (LP l), a, b, c]) [_, _, _, _] rfl ⟨[], _, _, _, rfl, rfl⟩ ?_ ?_
  · rintro pre x post _ hL ⟨l, a, b, c, hl2, rfl⟩ R hR
    obtain ⟨rfl, hlt⟩ := enum_pre hL
    have hx : p[pre.length] = 0 ∨ p[pre.length] = 1 := hp.2 _ (List.getElem_mem (by omega))
    have hix : ixD (TI p) (.int (pre.length : Int)) = some (.int p[pre.length]) := by
      have := ixD_tm (f := PyData.int) (L := p) (i := (pre.length : Int)) (by omega) (by omega)
      rw [Int.toNat_natCast, getElem!_pos p pre.length (by omega)] at this
      exact this
    have hxx : ∀ t : Int × Int, ixD (.list [.tuple [.int t.2, .int t.1], .tuple [.int t.1, .int t.2]]) (.int p[pre.length]) = some (dP (if p[pre.length] = 1 then t else (t.2, t.1))) := fun t => by
      rcases hx with e | e <;> rw [e] <;> rfl
    have hg : p[((pre.length : Int)).toNat]! = p[pre.length] := by rw [Int.toNat_natCast, getElem!_pos p pre.length (by omega)]
    walk_at "run"
    rw [hg]
    refine i_ex (hxx _) ?_
    have hle : l.length ≤ 1000 := by rw [hl2, List.length_take, arw_len hp]; omega
    walk_at "run"
    refine hR [_, _, _, _] ⟨_, _, _, _, ?_, rfl⟩
    rw [List.length_append, List.length_singleton, arw_take hlt (by omega), getElem!_pos w.ts pre.length hlt, hl2]
  · rintro _ ⟨l, a, b, c, hl2, rfl⟩
    walk_at "run"
    have : (enumL w.ts).length = w.ts.length := by unfold enumL; rw [List.length_zip, ints_len]; omega
    rw [hl2, this, List.take_of_length_le (by rw [arw_len hp]; exact Nat.le_refl _)]
    exact hP
/-- _law_is_fall: slots 0 web:r, 1 pointing:r, 2 flows:v, 3 left:v, 4 turn:v, 5 ends:v, 6 begin:v, 7 end:v, 8 place:v; modes ['rd', 'rd']; answer fz -/
def wb_l_is_fallC (S_l_flows : FS) : WS :=
  (wSeq (wAsg 2 (wCall S_l_flows (waCons (wVar 0) (waCons (wVar 1) waNil))))
    (wSeq (wAsg 3 (wLstRg (wiRg1 (wOp2 ixD (wVar 0) (wC (.int 0))))))
    (wSeq (wFor (wiRg1 (wOp2 ixD (wVar 0) (wC (.int 0)))) (gN 4) (wSeq (wAsg 5 (wComp (wiSeq (wVar 2)) (gT [(gN 6), (gN 7)]) [6, 7] (tVal (wOp2 inD (wVar 6) (wVar 3))) (wVar 7)))
    (wAsg 3 (wComp (wiSeq (wVar 3)) (gN 8) [8] (tVal (wOp2 inD (wVar 8) (wVar 5))) (wVar 8)))))
    (wRet (wOp2 eqD (wVar 3) (wList waNil))))))
theorem filt_perm (f l : List Int) (q : Int → Bool) {n : List Int} (h : (f ++ l).Perm n) : ((f ++ l.filter fun x => !q x) ++ l.filter q).Perm n := by
  rw [List.append_assoc]
  refine List.Perm.trans (List.Perm.append_left f ?_) h
  exact List.perm_append_comm.trans (List.filter_append_perm q l)
theorem m_l_is_fallC {rk : RK} : ∀ ds Post, S_is_fall ds Post → wb_l_is_fallC S_l_flows { nx := fun _ => Post .none ∧ rk = .fz, rt := fun d _ => Post d } (startE 9 ds) := by
  rintro ds Post ⟨w, p, rfl, o, hp, hP⟩
  have n1 := o.n1
  have n9 := o.n9
  have h20 := o.len
  have hT : Acyc (arw w p) → Post (.bool true) := fun h => by rw [acB_t.mpr h] at hP; exact hP
  have hF : ¬ Acyc (arw w p) → Post (.bool false) := fun h => by rw [acB_f.mpr h] at hP; exact hP
  unfold wb_l_is_fallC
  walk_at "start"
  walk_at "run"
  refine ⟨w, p, rfl, by omega, hp, ?_⟩
  have hrg := arw_rg o (p := p)
  generalize arw w p = ls at *
  walk_at "run"
  have nd0 : (irng 0 w.n).Nodup := (ints_sorted _ _).imp fun h => by omega
  have h0l : ((irng 0 w.n).length : Int) ≤ w.n - ((([] : List Int).length : Nat) : Int) := by rw [ints_len, List.length_nil]; omega
  refine for_st [3, 4, 5] (fun pre vs => ∃ (l f : List Int) (a b : Option D), (f ++ l).Perm (irng 0 w.n) ∧ Topo ls f ∧ (Acyc ls → (l.length : Int) ≤ w.n - pre.length ∨ l = []) ∧ vs = [some (LI l), a, b]) [_, _, _] rfl
    ⟨_, [], _, _, .refl _, .nil, fun _ => .inl h0l, rfl⟩ ?_ ?_
  · rintro pre x post _ hL ⟨l, f, a, b, hpm, ht, hlen, rfl⟩ R hR
    walk_at "runc"
    have he : ∀ q, q ∈ l.filter (fun x => decide (x ∈ List.map Prod.snd (List.filter (fun x => decide (x.fst ∈ l)) ls))) ↔ q ∈ l ∧ ∃ a ∈ l, (a, q) ∈ ls := fun q => by
      simp only [List.mem_filter, List.mem_map, decide_eq_true_eq]
      refine and_congr_right fun _ => ⟨?_, ?_⟩
      · rintro ⟨⟨x, y⟩, ⟨h1, h2⟩, rfl⟩; exact ⟨x, h2, h1⟩
      · rintro ⟨a, h1, h2⟩; exact ⟨(a, q), ⟨h2, h1⟩, rfl⟩
    have hnd : (f ++ l).Nodup := hpm.nodup_iff.mpr nd0
    rw [List.nodup_append] at hnd
    refine hR [_, _, _] ⟨_, _, _, _, filt_perm f l (fun x => decide (x ∈ List.map Prod.snd (List.filter (fun x => decide (x.fst ∈ l)) ls))) hpm, ?_, ?_, rfl⟩
    · refine ht.app (hnd.2.1.filter _) (fun q hq c => hnd.2.2 q c q (List.mem_filter.mp hq).1 rfl) fun q hq a ha => ?_
      obtain ⟨hql, hqn⟩ := List.mem_filter.mp hq
      have : a ∈ f ++ l := hpm.mem_iff.mpr (mem_ints.mpr (hrg _ ha).1)
      rcases List.mem_append.mp this with c | c
      · exact c
      · exfalso
        have h3 := (he q).mpr ⟨hql, a, c, ha⟩
        have h4 := (List.mem_filter.mp h3).2
        rw [h4] at hqn
        simp at hqn
    · intro hA
      rw [List.length_append, List.length_singleton]
      by_cases e : l = []
      · right; rw [e]; rfl
      · left
        obtain ⟨q, hq, hno⟩ := hA.stuck e
        have hlt : (l.filter (fun x => decide (x ∈ List.map Prod.snd (List.filter (fun x => decide (x.fst ∈ l)) ls)))).length < l.length := by
          refine Nat.lt_of_le_of_ne (List.length_filter_le _ _) fun c => ?_
          have := List.filter_eq_self.mp (List.filter_sublist.eq_of_length c) q hq
          obtain ⟨_, a, ha, hb⟩ := (he q).mp (List.mem_filter.mpr ⟨hq, this⟩)
          exact hno a ha hb
        rcases hlen hA with h | h
        · omega
        · exact absurd h e
  · rintro _ ⟨l, f, a, b, hpm, ht, hlen, rfl⟩
    walk_at "run"
    rw [ints_len] at hlen
    by_cases e : l = []
    · subst e
      have hA : Acyc ls := ht.acyc fun t h => by
        have := hpm.mem_iff.mpr (mem_ints.mpr (hrg t h).2)
        simpa using this
      simpa using hT hA
    · have hA : ¬ Acyc ls := fun c => by
        rcases hlen c with h | h
        · have : 0 < l.length := List.length_pos_iff.mpr e
          omega
        · exact e h
      simpa [e] using hF hA
/-- _law_turned: slots 0 pointing:r, 1 k:r; modes ['rd', 'rd']; answer fz -/
def wb_l_turned : WS :=
  (wRet (wOp2 addD (wOp2 addD (wSl slD (wVar 0) woN (woS (wVar 1))) (wTup (waCons (wOp2 subD (wC (.int 1)) (wOp2 ixD (wVar 0) (wVar 1))) waNil))) (wSl slD (wVar 0) (woS (wOp2 addD (wVar 1) (wC (.int 1)))) woN)))
def turnF (p : List Int) (k : Int) : List Int := p.set k.toNat (1 - gI p k)
def S_l_turned : FS := fun ds Post => ∃ p k, ds = [TI p, .int k] ∧ p.length ≤ 1000 ∧ 0 ≤ k ∧ k < (p.length : Int) ∧ Post (TI (turnF p k))
theorem m_l_turned {rk : RK} : ∀ ds Post, S_l_turned ds Post → wb_l_turned { nx := fun _ => Post .none ∧ rk = .fz, rt := fun d _ => Post d } (startE 2 ds) := by
  rintro ds Post ⟨p, k, rfl, hl, k0, k1, hP⟩
  unfold wb_l_turned
  walk_at "start"
  walk_at "run"
  refine i_ex (addD_tm1 (by rw [List.length_take]; omega)) ?_
  walk_at "run"
  refine i_ex (addD_tm (by simp only [List.length_append, List.length_take, List.length_drop, List.length_cons, List.length_nil]; omega)) ?_
  rw [put_eq _ _ _ (by omega) (by omega)]
  exact hP
end Lib
end G7

/-! ways along arrows; roads between falls -/
namespace G7
namespace Lib
open PySem
inductive Way (ls : Ar) (a : Int) : Int → Prop
  | nil : Way ls a a
  | snoc {b c : Int} : Way ls a b → (b, c) ∈ ls → Way ls a c
theorem Way.trans {ls : Ar} {a b c : Int} (h : Way ls a b) (g : Way ls b c) : Way ls a c := by
  induction g with
  | nil => exact h
  | snoc _ e ih => exact .snoc ih e
theorem Way.more {ls ms : Ar} (s : ∀ t ∈ ls, t ∈ ms) {a b : Int} (h : Way ls a b) : Way ms a b := by
  induction h with
  | nil => exact .nil
  | snoc _ e ih => exact .snoc ih (s _ e)
theorem Way.one {ls : Ar} {a b : Int} (h : (a, b) ∈ ls) : Way ls a b := .snoc .nil h
theorem Way.up {ls : Ar} {h : Int → Int} (hh : ∀ t ∈ ls, h t.1 < h t.2) {a b : Int} (g : Way ls a b) : a = b ∨ h a < h b := by
  induction g with
  | nil => exact .inl rfl
  | snoc _ e ih =>
    have := hh _ e
    rcases ih with rfl | ih
    · exact .inr this
    · exact .inr (Int.lt_trans ih this)
theorem Acyc.noway {ls : Ar} (h : Acyc ls) {a b : Int} (e : (b, a) ∈ ls) : ¬ Way ls a b := by
  obtain ⟨r, hr⟩ := h
  intro g
  have := hr _ e
  rcases g.up hr with rfl | h2
  · simp at this
  · simp only at this; omega
theorem Acyc.add {ls : Ar} (h : Acyc ls) {u v : Int} (n : ¬ Way ls u v) : Acyc ((v, u) :: ls) := by
  obtain ⟨r, hr⟩ := h
  refine ⟨fun x => r x + (open Classical in if Way ls u x then (if r u < r v then r v - r u + 1 else 1) else 0), fun t ht => ?_⟩
  rcases List.mem_cons.mp ht with rfl | ht
  · simp only [n, if_false, if_pos Way.nil]
    split <;> omega
  · have h1 := hr t ht
    have h2 : Way ls u t.1 → Way ls u t.2 := fun g => .snoc g ht
    simp only
    by_cases e : Way ls u t.1
    · rw [if_pos e, if_pos (h2 e)]
      split <;> omega
    · rw [if_neg e]
      split
      · split <;> omega
      · omega
theorem bnd (h : Int → Int) (ls : Ar) : ∃ K : Int, ∀ t ∈ ls, h t.1 < K ∧ h t.2 < K ∧ -K < h t.1 ∧ -K < h t.2 := by
  induction ls with
  | nil => exact ⟨0, fun t ht => by simp at ht⟩
  | cons t ls ih =>
    obtain ⟨K, hK⟩ := ih
    refine ⟨K.natAbs + (h t.1).natAbs + (h t.2).natAbs + 1, fun s hs => ?_⟩
    rcases List.mem_cons.mp hs with rfl | hs
    · omega
    · have := hK s hs
      omega
/-! turning one tie -/
theorem turn_len (p : List Int) (k : Int) : (turnF p k).length = p.length := by simp [turnF]
theorem turn_isP {w : Web} {p : List Int} (h : isP w p) (k : Int) : isP w (turnF p k) := by
  refine ⟨by rw [turn_len]; exact h.1, fun x hx => ?_⟩
  unfold turnF at hx
  rcases List.mem_or_eq_of_mem_set hx with hx | rfl
  · exact h.2 x hx
  · unfold gI
    by_cases hk : k.toNat < p.length
    · rcases h.2 _ (List.getElem_mem hk) with e | e <;> rw [getElem!_pos p k.toNat hk, e] <;> simp
    · right; simp [getElem!_neg p k.toNat hk]
theorem turn_gI {p : List Int} {k : Int} {j : Int} (j0 : 0 ≤ j) (j1 : j < (p.length : Int)) (k0 : 0 ≤ k) : gI (turnF p k) j = if j = k then 1 - gI p k else gI p j := by
  have hj : j.toNat < p.length := by omega
  unfold gI turnF
  rw [getElem!_pos (p.set k.toNat (1 - p[k.toNat]!)) j.toNat (by rw [List.length_set]; exact hj), List.getElem_set]
  by_cases e : j = k
  · subst e; simp [gI]
  · rw [if_neg (by omega), if_neg e, getElem!_pos p j.toNat hj]
def arr (w : Web) (p : List Int) (k : Nat) : Int × Int := if p[k]! = 1 then w.ts[k]! else (w.ts[k]!.2, w.ts[k]!.1)
theorem arw_get {w : Web} {p : List Int} (h : isP w p) {k : Nat} (hk : k < p.length) : (arw w p)[k]? = some (arr w p k) := by
  have h2 := h.1
  have : k < (arw w p).length := by rw [arw_len h]; omega
  rw [List.getElem?_eq_getElem this]
  unfold arr
  rw [getElem!_pos p k hk, getElem!_pos w.ts k (by omega)]
  simp [arw]
theorem mem_arw {w : Web} {p : List Int} (h : isP w p) {t : Int × Int} : t ∈ arw w p ↔ ∃ k, k < p.length ∧ t = arr w p k := by
  rw [List.mem_iff_getElem?]
  constructor
  · rintro ⟨k, hk⟩
    have : k < (arw w p).length := by
      rcases Nat.lt_or_ge k (arw w p).length with c | c
      · exact c
      · rw [List.getElem?_eq_none c] at hk; simp at hk
    rw [arw_len h, ← h.1] at this
    rw [arw_get h this] at hk
    exact ⟨k, this, (Option.some.inj hk).symm⟩
  · rintro ⟨k, hk, rfl⟩
    exact ⟨k, arw_get h hk⟩
theorem arr_turn {w : Web} {p : List Int} (h : isP w p) {k : Int} (k0 : 0 ≤ k) {j : Nat} (hj : j < p.length) : arr w (turnF p k) j = if (j : Int) = k then ((arr w p j).2, (arr w p j).1) else arr w p j := by
  have e := turn_gI (p := p) (k := k) (j := (j : Int)) (by omega) (by omega) k0
  unfold gI at e
  simp only [Int.toNat_natCast] at e
  unfold arr
  rw [e]
  by_cases c : (j : Int) = k
  · rw [if_pos c, if_pos c]
    subst c
    have hp : p[j]! = 0 ∨ p[j]! = 1 := by rw [getElem!_pos p j hj]; exact h.2 _ (List.getElem_mem hj)
    simp only [Int.toNat_natCast]
    rcases hp with e | e <;> simp [e]
  · rw [if_neg c, if_neg c]
theorem ok_nd {w : Web} (o : w.ok) : w.ts.Nodup := o.srt.imp fun h c => by subst c; unfold lexP at h; omega
theorem ts_inj {w : Web} (o : w.ok) {i j : Nat} (hi : i < w.ts.length) (hj : j < w.ts.length) (h : w.ts[i]! = w.ts[j]! ∨ w.ts[i]! = (w.ts[j]!.2, w.ts[j]!.1)) : i = j := by
  rw [getElem!_pos w.ts i hi, getElem!_pos w.ts j hj] at h
  rcases h with h | h
  · exact (List.getElem_inj (ok_nd o)).mp h
  · have a := o.rg _ (List.getElem_mem hi)
    have b := o.rg _ (List.getElem_mem hj)
    rw [h] at a
    simp only at a
    omega
theorem arr_inj {w : Web} (o : w.ok) {p : List Int} (h : isP w p) {i j : Nat} (hi : i < p.length) (hj : j < p.length) (e : arr w p i = arr w p j) : i = j := by
  have h1 := h.1
  refine ts_inj o (by omega) (by omega) ?_
  have hb : ∀ k, w.ts[k]! = arr w p k ∨ w.ts[k]! = ((arr w p k).2, (arr w p k).1) := fun k => by
    unfold arr
    split
    · exact .inl rfl
    · exact .inr rfl
  rcases hb i with a | a <;> rcases hb j with b | b <;> rw [a, b, e]
  · exact .inl rfl
  · exact .inr rfl
  · exact .inr rfl
  · exact .inl rfl
/-- the arrows but one -/
def but (w : Web) (p : List Int) (k : Nat) : Ar := (arw w p).filter fun t => decide (t ≠ arr w p k)
theorem turn_sub {w : Web} (o : w.ok) {p : List Int} (h : isP w p) {k : Nat} (hk : k < p.length) : ∀ t ∈ arw w (turnF p k), t ∈ ((arr w p k).2, (arr w p k).1) :: but w p k := by
  intro t ht
  obtain ⟨j, hj, rfl⟩ := (mem_arw (turn_isP h k)).mp ht
  rw [turn_len] at hj
  rw [arr_turn h (by omega) hj]
  by_cases c : (j : Int) = k
  · have : j = k := by omega
    subst this
    rw [if_pos rfl]
    exact List.mem_cons_self
  · rw [if_neg c]
    refine List.mem_cons_of_mem _ (List.mem_filter.mpr ⟨(mem_arw h).mpr ⟨j, hj, rfl⟩, ?_⟩)
    simp only [ne_eq, decide_eq_true_eq]
    intro e
    exact c (by rw [arr_inj o h hj hk e])
theorem but_sub {w : Web} {p : List Int} (h : isP w p) {k : Nat} (hk : k < p.length) : ∀ t ∈ but w p k, t ∈ arw w (turnF p k) := by
  intro t ht
  obtain ⟨h1, h2⟩ := List.mem_filter.mp ht
  obtain ⟨j, hj, rfl⟩ := (mem_arw h).mp h1
  simp only [ne_eq, decide_eq_true_eq] at h2
  refine (mem_arw (turn_isP h k)).mpr ⟨j, by rw [turn_len]; exact hj, ?_⟩
  rw [arr_turn h (by omega) hj, if_neg fun c => h2 (by rw [show j = k by omega])]
/-- a tie is free where no other way leads along it -/
theorem free_iff {w : Web} (o : w.ok) {p : List Int} (h : isP w p) (a : Acyc (arw w p)) {k : Nat} (hk : k < p.length) : Acyc (arw w (turnF p k)) ↔ ¬ Way (but w p k) (arr w p k).1 (arr w p k).2 := by
  constructor
  · intro g
    have e : ((arr w p k).2, (arr w p k).1) ∈ arw w (turnF p k) := (mem_arw (turn_isP h k)).mpr ⟨k, by rw [turn_len]; exact hk, by rw [arr_turn h (by omega) hk, if_pos rfl]⟩
    exact fun c => g.noway e (c.more (but_sub h hk))
  · intro n
    exact ((a.sub fun t ht => (List.mem_filter.mp ht).1).add n).sub (turn_sub o h hk)
def unl (p q : List Int) : List Int := (irng 0 p.length).filter fun k => decide (gI p k ≠ gI q k)
theorem mem_unl {p q : List Int} {k : Int} : k ∈ unl p q ↔ (0 ≤ k ∧ k < (p.length : Int)) ∧ gI p k ≠ gI q k := by
  unfold unl
  rw [List.mem_filter, mem_ints, decide_eq_true_eq]
theorem unl_nil {p q : List Int} (hl : p.length = q.length) (h : unl p q = []) : p = q := by
  refine List.ext_getElem hl fun i h1 h2 => ?_
  by_cases c : p[i] = q[i]
  · exact c
  · have : (i : Int) ∈ unl p q := mem_unl.mpr ⟨by omega, by unfold gI; rw [Int.toNat_natCast, getElem!_pos p i h1, getElem!_pos q i h2]; exact c⟩
    rw [h] at this
    simp at this
/-- among the ties that lie unlike in two falls, one is free -/
theorem some_free {w : Web} (o : w.ok) {p q : List Int} (hp : isP w p) (hq : isP w q) (ap : Acyc (arw w p)) (aq : Acyc (arw w q)) (ne : p ≠ q) : ∃ k ∈ unl p q, Acyc (arw w (turnF p k)) := by
  have hl : p.length = q.length := by rw [hp.1, hq.1]
  obtain ⟨h, hh⟩ := ap
  obtain ⟨k, hk, hm⟩ := min_by (fun k : Int => h (arr w p k.toNat).2 - h (arr w p k.toNat).1) (l := unl p q) (fun c => ne (unl_nil hl c))
  refine ⟨k, hk, ?_⟩
  obtain ⟨⟨k0, k1⟩, hu⟩ := mem_unl.mp hk
  have hkn : k.toNat < p.length := by omega
  have hu2 : ∀ j : Nat, j < p.length → p[j]! ≠ q[j]! → arr w q j = ((arr w p j).2, (arr w p j).1) := fun j hj hne => by
    have a : p[j]! = 0 ∨ p[j]! = 1 := by rw [getElem!_pos p j hj]; exact hp.2 _ (List.getElem_mem hj)
    have b : q[j]! = 0 ∨ q[j]! = 1 := by rw [getElem!_pos q j (by omega)]; exact hq.2 _ (List.getElem_mem (by omega))
    unfold arr
    rcases a with a | a <;> rcases b with b | b <;> rw [a, b] at hne ⊢ <;> simp at hne ⊢
  have hk2 : (k.toNat : Int) = k := by omega
  rw [← hk2, free_iff o hp ⟨h, hh⟩ hkn]
  intro g
  have key : ∀ x, Way (but w p k.toNat) (arr w p k.toNat).1 x → Way (but w p k.toNat) x (arr w p k.toNat).2 → Way (arw w q) (arr w p k.toNat).1 x := by
    intro x hx
    induction hx with
    | nil => exact fun _ => .nil
    | @snoc b c hb e ih =>
      intro hc
      refine .snoc (ih ((Way.one e).trans hc)) ?_
      obtain ⟨e1, e2⟩ := List.mem_filter.mp e
      obtain ⟨j, hj, e3⟩ := (mem_arw hp).mp e1
      by_cases c1 : p[j]! = q[j]!
      · refine (mem_arw hq).mpr ⟨j, by omega, ?_⟩
        rw [e3]; unfold arr; rw [c1]
      · exfalso
        have hjm : (j : Int) ∈ unl p q := mem_unl.mpr ⟨by omega, by unfold gI; rw [Int.toNat_natCast]; exact c1⟩
        have hmj := hm _ hjm
        simp only [Int.toNat_natCast, ← e3] at hmj
        have hs : ∀ t ∈ but w p k.toNat, h t.1 < h t.2 := fun t ht => hh t (List.mem_filter.mp ht).1
        have u1 := hb.up hs
        have u2 := hc.up hs
        simp only [ne_eq, decide_eq_true_eq] at e2
        have u3 := hh _ e1
        simp only at u3
        rcases u1 with u1 | u1
        · rcases u2 with u2 | u2
          · exact e2 (Prod.ext u1.symm u2)
          · rw [u1] at hmj; omega
        · rcases u2 with u2 | u2
          · rw [u2] at hmj u3; omega
          · omega
  have h1 := key _ g .nil
  have h2 : ((arr w p k.toNat).2, (arr w p k.toNat).1) ∈ arw w q := (mem_arw hq).mpr ⟨k.toNat, by omega, (hu2 _ hkn (by unfold gI at hu; exact hu)).symm⟩
  exact aq.noway h2 h1
/-! the road -/
noncomputable def freeF (w : Web) (p q : List Int) : List Int := (unl p q).filter fun k => acB (arw w (turnF p k))
noncomputable def roadF (w : Web) (q : List Int) : Nat → List Int → List Int
  | 0, _ => []
  | m + 1, p => (freeF w p q).headD 0 :: roadF w q m (turnF p ((freeF w p q).headD 0))
noncomputable def roadGo (w : Web) : List Int → List Int → Option (List Int)
  | p, [] => some p
  | p, k :: ks => if (0 ≤ k ∧ k < (p.length : Int)) ∧ acB (arw w (turnF p k)) = true then roadGo w (turnF p k) ks else none
theorem unl_turn {w : Web} {p q : List Int} (hp : isP w p) (hq : isP w q) {k : Int} (hk : k ∈ unl p q) : unl (turnF p k) q = (unl p q).filter fun j => decide (j ≠ k) := by
  obtain ⟨⟨k0, k1⟩, hu⟩ := mem_unl.mp hk
  unfold unl
  rw [turn_len, List.filter_filter]
  refine List.filter_congr fun j hj => ?_
  obtain ⟨j0, j1⟩ := mem_ints.mp hj
  rw [turn_gI j0 j1 k0]
  by_cases e : j = k
  · subst e
    have a : gI p j = 0 ∨ gI p j = 1 := by unfold gI; rw [getElem!_pos p _ (by omega)]; exact hp.2 _ (List.getElem_mem _)
    have b : gI q j = 0 ∨ gI q j = 1 := by
      have := hp.1; have := hq.1
      unfold gI; rw [getElem!_pos q _ (by omega)]; exact hq.2 _ (List.getElem_mem _)
    rw [if_pos rfl]
    rcases a with a | a <;> rcases b with b | b <;> rw [a, b] at hu ⊢ <;> simp at hu ⊢
  · simp [e]
theorem unl_nodup (p q : List Int) : (unl p q).Nodup := ((ints_sorted _ _).imp fun h => by omega : (irng 0 p.length).Nodup).filter _
theorem unl_perm {w : Web} {p q : List Int} (hp : isP w p) (hq : isP w q) {k : Int} (hk : k ∈ unl p q) : (k :: unl (turnF p k) q).Perm (unl p q) := by
  rw [unl_turn hp hq hk]
  have : (unl p q).filter (fun j => decide (j ≠ k)) = (unl p q).erase k := by
    rw [(unl_nodup p q).erase_eq_filter]
    refine List.filter_congr fun j _ => ?_
    by_cases c : j = k <;> simp [c, bne]
  rw [this]
  exact (List.perm_cons_erase hk).symm
theorem free_head {w : Web} (o : w.ok) {p q : List Int} (hp : isP w p) (hq : isP w q) (ap : Acyc (arw w p)) (aq : Acyc (arw w q)) (ne : p ≠ q) : ∃ k r, freeF w p q = k :: r ∧ k ∈ unl p q ∧ Acyc (arw w (turnF p k)) := by
  obtain ⟨k, hk, hf⟩ := some_free o hp hq ap aq ne
  cases e : freeF w p q with
  | nil =>
    have : k ∈ freeF w p q := List.mem_filter.mpr ⟨hk, acB_t.mpr hf⟩
    rw [e] at this
    simp at this
  | cons j r =>
    have : j ∈ freeF w p q := by rw [e]; exact List.mem_cons_self
    obtain ⟨h1, h2⟩ := List.mem_filter.mp this
    exact ⟨j, r, rfl, h1, acB_t.mp h2⟩
theorem unl_self (p : List Int) : unl p p = [] := by simp [unl]
theorem road_ok {w : Web} (o : w.ok) {q : List Int} (hq : isP w q) (aq : Acyc (arw w q)) : ∀ {m : Nat} {p : List Int}, isP w p → Acyc (arw w p) → m = (unl p q).length → (roadF w q m p).Perm (unl p q) ∧ roadGo w p (roadF w q m p) = some q := by
  intro m
  induction m with
  | zero =>
    intro p hp ap hm
    have e := List.length_eq_zero_iff.mp hm.symm
    have : p = q := unl_nil (by rw [hp.1, hq.1]) e
    subst this
    exact ⟨by rw [e]; exact .nil, rfl⟩
  | succ m ih =>
    intro p hp ap hm
    have ne : p ≠ q := fun c => by rw [c, unl_self] at hm; simp at hm
    obtain ⟨k, r, e, hk, hf⟩ := free_head o hp hq ap aq ne
    have hpm := unl_perm hp hq hk
    have hl := hpm.length_eq
    rw [List.length_cons] at hl
    obtain ⟨i1, i2⟩ := ih (turn_isP hp k) hf (by omega)
    unfold roadF
    rw [e, List.headD_cons]
    refine ⟨(i1.cons k).trans hpm, ?_⟩
    obtain ⟨⟨k0, k1⟩, -⟩ := mem_unl.mp hk
    unfold roadGo
    rw [if_pos ⟨⟨k0, k1⟩, acB_t.mpr hf⟩]
    exact i2
end Lib
end G7

/-! turning: draws and program of k17 to k21 -/
namespace G7

local macro_rules | `(tactic| walk_at "op") => `(tactic| first
  | with_reducible exact addD_i _ _ | with_reducible exact subD_i _ _ | with_reducible exact ltD_i _ _ | with_reducible exact leD_i _ _ | with_reducible exact gtD_i _ _ | with_reducible exact geD_i _ _
  | with_reducible exact eqD_i _ _ | with_reducible exact neD_i _ _ | with_reducible exact lenD_lm | with_reducible exact lenD_tm | with_reducible exact lenD_l _ | with_reducible exact lenD_t _ | with_reducible exact dP_0 _ | with_reducible exact dP_1 _
  | with_reducible exact ixD_t0 _ _ | with_reducible exact ixD_t1 _ _ _ | with_reducible exact ixD_t2 _ _ _ _ | with_reducible exact ixD_l0 _ _ | with_reducible exact ixD_l0m | with_reducible exact ixD_t0m | exact eqD_sT | exact eqD_sF | exact neD_sT | exact neD_sF | with_reducible exact ixD_l1 _ _ _
  | with_reducible exact Lib.dW_0 _ | with_reducible exact Lib.dW_1 _ | with_reducible exact tupD_l _ | with_reducible exact tupD_t _ | with_reducible exact lstD_l _ | with_reducible exact lstD_t _ | with_reducible exact max2D_i _ _ | with_reducible exact min2D_i _ _
  | with_reducible exact isTD_i | with_reducible exact tupRevD_m | ((with_reducible refine' indexD_li ?_); with_reducible assumption) | ((with_reducible refine' indexD_xi ?_); with_reducible assumption) | with_reducible exact isTD_s _ _ | with_reducible exact powD_6 | with_reducible exact powD_16 | with_reducible exact powD_18 | with_reducible exact isTD_t _ _ | with_reducible exact isTD_l _ _ | with_reducible exact isTD_b _ _ | with_reducible exact isTD_n _ | with_reducible exact isD_bb _ _ | with_reducible exact isNotD_bb _ _ | with_reducible exact isD_n' _ | with_reducible exact isD_lN _ | with_reducible exact isD_tN _ | with_reducible exact isNotD_lN _ | with_reducible exact isNotD_tN _ | with_reducible exact intD_b _ | with_reducible exact intD_i _ | with_reducible exact negD_i _ | with_reducible exact eqD_b _ _ | with_reducible exact neD_b _ _
  | with_reducible exact neD_l0 _ | with_reducible exact eqD_l0 _ | with_reducible exact eqD_li _ _ | with_reducible exact neD_li _ _ | with_reducible exact eqD_ti _ _ | with_reducible exact neD_ti _ _
  | with_reducible exact eqD_lp _ _ | with_reducible exact neD_lp _ _ | with_reducible exact eqD_tp _ _ | with_reducible exact neD_tp _ _
  | with_reducible exact inD_li _ _ | with_reducible exact inD_ti _ _ | with_reducible exact notInD_li _ _ | with_reducible exact notInD_ti _ _ | with_reducible exact inD_lp _ _ | with_reducible exact inD_tp _ _
  | with_reducible exact notInD_lp _ _ | with_reducible exact notInD_tp _ _ | with_reducible exact inD_lp' _ _ _ | with_reducible exact inD_tp' _ _ _ | with_reducible exact notInD_lp' _ _ _ | with_reducible exact notInD_tp' _ _ _
  | with_reducible exact inD_pair _ _ _ | with_reducible exact sortedAD_i _ | with_reducible exact sortedAD_p _ | with_reducible exact allD_b _ | with_reducible exact anyD_b _
  | ((with_reducible refine' addD_1m ?_); omega) | with_reducible exact Lib.maxAD_0 _ | with_reducible exact Lib.din_dI _ _ | with_reducible exact Lib.dinTD_p _ _ | with_reducible exact Lib.dninTD_p _ _ | with_reducible exact Lib.lenTD_p _ | with_reducible exact Lib.sortTLD_p _ | with_reducible exact Lib.dnin_dI _ _ | ((with_reducible apply Lib.dget_dI); with_reducible assumption) | ((with_reducible refine' repLD_0 ?_ ?_) <;> omega) | ((with_reducible refine' slT_tom ?_); omega) | ((with_reducible refine' slT_frm ?_); omega) | ((with_reducible refine' slL_tom ?_); omega) | ((with_reducible refine' slL_frm ?_); omega) | ((with_reducible refine' modD_i ?_); omega) | ((with_reducible refine' fdivD_i ?_ ?_) <;> omega) | ((with_reducible refine' mulID_i (okMul_l ?_ ?_)) <;> omega) | ((with_reducible refine' mulID_i (okMul_r ?_ ?_)) <;> omega)
  | ((with_reducible refine' ixD_lm ?_ ?_) <;> omega) | ((with_reducible refine' ixD_tm ?_ ?_) <;> omega) | with_reducible assumption)
local macro_rules | `(tactic| walk_at "env") => `(tactic| simp only [List.set_cons_zero, List.set_cons_succ, upd, wp_cons, wp_nil, back_cons, back_nil, List.getElem?_cons_zero, List.getElem?_cons_succ, Option.getD_some, toF])
local macro_rules | `(tactic| walk_at "cond") => `(tactic| first | assumption | omega | exact rfl | (focus (simp; done)))
local macro_rules | `(tactic| walk_at "mut") => `(tactic| first | ((with_reducible refine' popAtF_m ?_ ?_) <;> omega) | ((with_reducible refine' appendF_m ?_); first | omega | (simp only [List.length_append, List.length_map, List.length_cons, List.length_nil]; omega)) | ((with_reducible refine' removeF_i ?_); (first | assumption | (simp; done))) | ((with_reducible refine' extendF_m ?_); first | omega | (simp only [List.length_append, List.length_map, List.length_cons, List.length_nil]; omega)))
local macro_rules | `(tactic| walk_at "s") => `(tactic| first
  | with_reducible refine' i_seq ?_ | ((with_reducible apply i_frz); (exact rfl); (first | exact nt_l | exact nt_d)) | ((with_reducible apply i_asV); (exact rfl)) | ((with_reducible apply i_asO); (exact rfl); (first | exact nt_l | exact nt_d)) | with_reducible refine' i_op2 ?_ | with_reducible refine' i_acons ?_ | with_reducible refine' i_anil ?_ | ((with_reducible apply i_var); exact rfl) | with_reducible refine' i_c ?_
  | with_reducible refine' i_asg ?_ | with_reducible refine' i_par ?_ | with_reducible refine' i_par2 ?_ | with_reducible refine' i_call ?_ | with_reducible refine' i_blt ?_ | with_reducible refine' i_op1 ?_ | with_reducible refine' i_tup ?_ | with_reducible refine' i_list ?_
  | ((with_reducible apply i_ex); walk_at "op") | ((with_reducible apply i_exk); walk_at "op")
  | with_reducible refine' i_val ?_ | with_reducible refine' i_exb ?_ | with_reducible refine' i_if ?_ | with_reducible refine' i_ret ?_ | with_reducible refine' i_nil ?_
  | with_reducible refine' i_T ?_ | with_reducible refine' i_F ?_ | with_reducible refine' i_tand ?_ | with_reducible refine' i_tor ?_ | with_reducible refine' i_tnot ?_ | with_reducible refine' i_yes ?_
  | with_reducible refine' i_and ?_ | with_reducible refine' i_or ?_ | with_reducible refine' i_not ?_ | with_reducible refine' i_ife ?_ | with_reducible refine' i_chain ?_
  | with_reducible refine' i_comp ?_ | with_reducible refine' i_iseq ?_ | with_reducible refine' i_irg1 ?_ | with_reducible refine' i_irg2 ?_ | with_reducible refine' i_izip ?_ | with_reducible refine' i_zipT ?_ | with_reducible refine' i_zipL ?_ | with_reducible refine' i_ienum ?_ | ((with_reducible apply i_enum); exact rfl) | with_reducible refine' i_irev ?_
  | with_reducible refine' i_for ?_ | with_reducible refine' i_lstrg ?_ | with_reducible refine' i_asgG ?_ | with_reducible refine' i_asgP ?_ | with_reducible refine' i_expr ?_ | with_reducible refine' i_retN ?_ | with_reducible refine' i_brk ?_ | with_reducible refine' i_cnt ?_
  | with_reducible refine' i_on ?_ | with_reducible refine' i_os ?_ | with_reducible refine' i_sl ?_ | ((with_reducible apply i_exl); exact rfl)
  | ((with_reducible refine' i_rg1 ?_ ?_); (constructor <;> omega)) | ((with_reducible refine' i_rg2 ?_ ?_); (refine ⟨?_, ?_, ?_, ?_⟩ <;> omega))
  | with_reducible refine' i_exi ?_
  | (with_reducible refine' i_len (Nat.le_of_ble_eq_true rfl) ?_)
  | ((with_reducible apply i_g); exact rfl) | ((with_reducible refine' i_plix ?_ ?_); exact rfl) | with_reducible refine' i_plset ?_ | with_reducible refine' i_np ?_
  | with_reducible refine' i_idxL ?_ | with_reducible refine' i_idl ?_ | with_reducible refine' i_idx ?_
  | ((with_reducible apply i_mut1); (exact rfl); walk_at "mut")
  | ((with_reducible apply Lib.i_keysT); exact rfl) | (with_reducible refine' Lib.i_dputT ?_) | ((with_reducible apply Lib.i_dputT0); exact rfl) | ((with_reducible apply Lib.i_dputT1); (exact rfl); omega)
  | (with_reducible refine' Lib.i_dput ?_) | ((with_reducible apply Lib.i_dput0); exact rfl) | ((with_reducible apply Lib.i_dput1); (exact rfl); omega)
  | ((with_reducible refine' i_dT ?_ ?_); walk_at "cond") | ((with_reducible refine' i_dF ?_ ?_); walk_at "cond") | ((with_reducible refine' i_ndT ?_ ?_); walk_at "cond") | ((with_reducible refine' i_ndF ?_ ?_); walk_at "cond")
  | ((with_reducible refine' i_bT ?_ ?_); (first | with_reducible assumption | exact rfl)) | ((with_reducible refine' i_bF ?_ ?_); (first | with_reducible assumption | exact rfl))
  | ((with_reducible apply i_setixm); (exact rfl); omega; omega) | (with_reducible refine' i_setix ?_) | ((with_reducible apply i_setix0); exact rfl) | ((with_reducible apply i_mut); exact rfl))
local macro_rules | `(tactic| walk_at "run") => `(tactic| (repeat (walk_at "s")); try walk_at "env")
local macro_rules | `(tactic| walk_at "start") => `(tactic| simp only [startE, List.map_cons, List.map_nil, List.length_cons, List.length_nil, Nat.reduceAdd, Nat.reduceSub, Nat.zero_add, List.replicate_succ, List.replicate_zero, List.cons_append, List.nil_append])
local macro_rules | `(tactic| walk_at "len") => `(tactic| first | omega | (simp only [List.length_map, List.length_append, List.length_cons, List.length_nil]; omega) | (refine Nat.le_trans ?_ (Nat.le_refl _); have := List.length_filter_le; simp_all; done))
local macro_rules | `(tactic| walk_at "opl") => `(tactic| first | ((with_reducible refine' addD_lm ?_); walk_at "len") | ((with_reducible refine' addD_tm ?_); walk_at "len") | ((with_reducible refine' addLD_lm ?_); walk_at "len"))
/-- a comprehension: of what is walked itself, of ints, pairs, truths -/
local macro_rules | `(tactic| walk_at "comp") => `(tactic| first
  | (refine comp_fil ?_ (fun x hx => ?_) ?_; rotate_left 1; focus ((try have hx1 := Fact.use (by assumption) hx); (try have hx2 := mem_ints.mp hx); (try dsimp only at hx1); refine ⟨_, rfl, fun R hR => ?_, fun hp R hR => ?_, rfl⟩ <;> (repeat (walk_at "s")) <;> exact hR))
  | (refine comp_all (en2 := PySem.PyData.int) ?_ (fun x hx => ?_) ?_; rotate_left 1; focus ((try have hx1 := Fact.use (by assumption) hx); (try have hx2 := mem_ints.mp hx); (try dsimp only at hx1); refine ⟨_, rfl, fun R hR => ?_, rfl⟩ <;> (repeat (walk_at "s")) <;> exact hR))
  | (refine comp_all (en2 := PySem.PyData.bool) ?_ (fun x hx => ?_) ?_; rotate_left 1; focus ((try have hx1 := Fact.use (by assumption) hx); (try have hx2 := mem_ints.mp hx); (try dsimp only at hx1); refine ⟨_, rfl, fun R hR => ?_, rfl⟩ <;> (repeat (walk_at "s")) <;> exact hR))
  | (refine comp_all (en2 := dP) ?_ (fun x hx => ?_) ?_; rotate_left 1; focus ((try have hx1 := Fact.use (by assumption) hx); (try have hx2 := mem_ints.mp hx); (try dsimp only at hx1); refine ⟨_, rfl, fun R hR => ?_, rfl⟩ <;> (repeat (walk_at "s")) <;> exact hR))
  | (refine comp_el (en2 := PySem.PyData.int) ?_ ?_ (fun x hx => ?_) ?_; rotate_left 2; focus ((try have hx1 := Fact.use (by assumption) hx); (try have hx2 := mem_ints.mp hx); (try dsimp only at hx1); refine ⟨_, rfl, fun R hR => ?_, fun hp R hR => ?_, rfl⟩ <;> (repeat (walk_at "s")) <;> exact hR))
  | (refine comp_el (en2 := dP) ?_ ?_ (fun x hx => ?_) ?_; rotate_left 2; focus ((try have hx1 := Fact.use (by assumption) hx); (try have hx2 := mem_ints.mp hx); (try dsimp only at hx1); refine ⟨_, rfl, fun R hR => ?_, fun hp R hR => ?_, rfl⟩ <;> (repeat (walk_at "s")) <;> exact hR))
  | (refine comp_el (en2 := PySem.PyData.bool) ?_ ?_ (fun x hx => ?_) ?_; rotate_left 2; focus ((try have hx1 := Fact.use (by assumption) hx); (try have hx2 := mem_ints.mp hx); (try dsimp only at hx1); refine ⟨_, rfl, fun R hR => ?_, fun hp R hR => ?_, rfl⟩ <;> (repeat (walk_at "s")) <;> exact hR))
  | (refine comp_allD (en2 := PySem.PyData.int) ?_ (fun x hx => ?_) ?_; rotate_left 1; focus ((try have hx1 := Fact.use (by assumption) hx); (try dsimp only at hx1); refine ⟨_, rfl, fun R hR => ?_, rfl⟩ <;> (repeat (walk_at "s")) <;> exact hR))
  | (refine comp_allD (en2 := PySem.PyData.bool) ?_ (fun x hx => ?_) ?_; rotate_left 1; focus ((try have hx1 := Fact.use (by assumption) hx); (try dsimp only at hx1); refine ⟨_, rfl, fun R hR => ?_, rfl⟩ <;> (repeat (walk_at "s")) <;> exact hR)))
local macro_rules | `(tactic| walk_at "runc") => `(tactic| (repeat (first | walk_at "s" | walk_at "comp")); try walk_at "env")
namespace Lib
open PySem
/-- _law_is_road: slots 0 web:r, 1 one:v, 2 other:r, 3 row:r, 4 here:v, 5 k:v; modes ['rd', 'fz', 'rd', 'rd']; answer fz -/
def wb_l_is_road (S_l_is_fall : FS) (S_l_turned : FS) : WS :=
  (wSeq (wAsg 4 (wVar 1))
    (wSeq (wFor (wiSeq (wVar 3)) (gN 5) (wSeq (wIf (tOr (tNot (tVal (wChain leD ltD (wC (.int 0)) (wVar 5) (wBlt lenD (waCons (wVar 1) waNil))))) (tNot (tVal (wCall S_l_is_fall (waCons (wVar 0) (waCons (wCall S_l_turned (waCons (wVar 4) (waCons (wVar 5) waNil))) waNil)))))) (wRet (wC (.bool false))) wNil)
    (wAsg 4 (wCall S_l_turned (waCons (wVar 4) (waCons (wVar 5) waNil))))))
    (wRet (wOp2 eqD (wVar 4) (wVar 2)))))
def S_l_is_road : FS := fun ds Post => ∃ w one other row, ds = [dW w, TI one, TI other, LI row] ∧ w.ok ∧ isP w one ∧ Post (.bool (decide (roadGo w one row = some other)))
theorem m_l_is_road {rk : RK} : ∀ ds Post, S_l_is_road ds Post → wb_l_is_road S_is_fall S_l_turned { nx := fun _ => Post .none ∧ rk = .fz, rt := fun d _ => Post d } (startE 6 ds) := by
  rintro ds Post ⟨w, one, other, row, rfl, o, hp, hP⟩
  have hl := hp.1
  have h20 := o.len
  unfold wb_l_is_road
  walk_at "start"
  walk_at "run"
  refine for_st [4, 5] (fun pre vs => ∃ here a, isP w here ∧ (∀ post, row = pre ++ post → roadGo w one row = roadGo w here post) ∧ vs = [some (TI here), a]) [_, _] rfl ⟨one, _, hp, fun post h => by rw [h]; rfl, rfl⟩ ?_ ?_
  · rintro pre k post _ hL ⟨here, a, hh, hg, rfl⟩ R hR
    have hg := hg _ hL
    have hhl := hh.1
    by_cases hk : 0 ≤ k ∧ k < (one.length : Int)
    · walk_at "run"
      refine ⟨here, k, rfl, by omega, by omega, by omega, ?_⟩
      walk_at "run"
      refine ⟨w, turnF here k, rfl, o, turn_isP hh k, ?_⟩
      cases e : acB (arw w (turnF here k)) with
      | false =>
        walk_at "run"
        have : roadGo w one row = none := by rw [hg]; unfold roadGo; rw [if_neg (by rw [e]; simp)]
        rw [this] at hP
        simpa using hP
      | true =>
        walk_at "run"
        refine ⟨here, k, rfl, by omega, by omega, by omega, ?_⟩
        walk_at "run"
        refine hR [_, _] ⟨_, _, turn_isP hh k, fun ps h => ?_, rfl⟩
        have : ps = post := by
          rw [hL, List.append_assoc] at h
          simpa using (List.append_cancel_left h).symm
        rw [hg, this]
        conv => lhs; unfold roadGo
        rw [if_pos ⟨⟨hk.1, by omega⟩, e⟩]
    · have : roadGo w one row = none := by rw [hg]; unfold roadGo; rw [if_neg fun c => hk ⟨c.1.1, by omega⟩]
      rw [this] at hP
      have hP : Post (.bool false) := by simpa using hP
      by_cases h0 : 0 ≤ k
      · have h1 : ¬ k < (one.length : Int) := fun c => hk ⟨h0, c⟩
        walk_at "run"
        exact hP
      · walk_at "run"
        exact hP
  · rintro _ ⟨here, a, hh, hg, rfl⟩
    walk_at "run"
    have := hg [] (by simp)
    rw [this] at hP
    simpa [roadGo] using hP
/-- _law_sources: slots 0 web:r, 1 fall:r, 2 ends:v, 3 begin:v, 4 end:v, 5 place:v; modes ['rd', 'rd']; answer fz -/
def wb_l_sources (S_l_flows : FS) : WS :=
  (wSeq (wAsg 2 (wComp (wiSeq (wCall S_l_flows (waCons (wVar 0) (waCons (wVar 1) waNil)))) (gT [(gN 3), (gN 4)]) [3, 4] G7.tYes (wVar 4)))
    (wRet (wComp (wiRg1 (wOp2 ixD (wVar 0) (wC (.int 0)))) (gN 5) [5] (tVal (wOp2 notInD (wVar 5) (wVar 2))) (wVar 5))))
def S_l_sources : FS := fun ds Post => ∃ w p, ds = [dW w, TI p] ∧ w.ok ∧ isP w p ∧ Post (LI ((irng 0 w.n).filter fun q => !decide (q ∈ (arw w p).map Prod.snd)))
theorem m_l_sources {rk : RK} : ∀ ds Post, S_l_sources ds Post → wb_l_sources S_l_flows { nx := fun _ => Post .none ∧ rk = .fz, rt := fun d _ => Post d } (startE 6 ds) := by
  rintro ds Post ⟨w, p, rfl, o, hp, hP⟩
  have h20 := o.len
  have n1 := o.n1
  have n9 := o.n9
  unfold wb_l_sources
  walk_at "start"
  walk_at "run"
  refine ⟨w, p, rfl, by omega, hp, ?_⟩
  walk_at "runc"
  exact hP
/-- _law_sinks: slots 0 web:r, 1 fall:r, 2 begins:v, 3 begin:v, 4 end:v, 5 place:v; modes ['rd', 'rd']; answer fz -/
def wb_l_sinks (S_l_flows : FS) : WS :=
  (wSeq (wAsg 2 (wComp (wiSeq (wCall S_l_flows (waCons (wVar 0) (waCons (wVar 1) waNil)))) (gT [(gN 3), (gN 4)]) [3, 4] G7.tYes (wVar 3)))
    (wRet (wComp (wiRg1 (wOp2 ixD (wVar 0) (wC (.int 0)))) (gN 5) [5] (tVal (wOp2 notInD (wVar 5) (wVar 2))) (wVar 5))))
def S_l_sinks : FS := fun ds Post => ∃ w p, ds = [dW w, TI p] ∧ w.ok ∧ isP w p ∧ Post (LI ((irng 0 w.n).filter fun q => !decide (q ∈ (arw w p).map Prod.fst)))
theorem m_l_sinks {rk : RK} : ∀ ds Post, S_l_sinks ds Post → wb_l_sinks S_l_flows { nx := fun _ => Post .none ∧ rk = .fz, rt := fun d _ => Post d } (startE 6 ds) := by
  rintro ds Post ⟨w, p, rfl, o, hp, hP⟩
  have h20 := o.len
  have n1 := o.n1
  have n9 := o.n9
  unfold wb_l_sinks
  walk_at "start"
  walk_at "run"
  refine ⟨w, p, rfl, by omega, hp, ?_⟩
  walk_at "runc"
  exact hP
/-- _law_about: slots 0 web:r, 1 fall:r, 2 place:r, 3 found:o, 4 k:v, 5 pair:v; modes ['rd', 'rd', 'rd']; answer fz -/
def wb_l_about : WS :=
  (wSeq (wAsg 3 (wList waNil))
    (wSeq (wFor (wiEnum (wOp2 ixD (wVar 0) (wC (.int 1)))) (gT [(gN 4), (gN 5)]) (wExpr (wMut 3 appendF (waCons (wOp2 ixD (wList (waCons (wOp2 ixD (wVar 1) (wVar 4)) (waCons (wOp2 subD (wC (.int 1)) (wOp2 ixD (wVar 1) (wVar 4))) waNil))) (wBlt intD (waCons (wOp2 inD (wVar 2) (wVar 5)) waNil))) waNil))))
    (wRet (wBlt tupD (waCons (wVar 3) waNil)))))
def tch (q : Int) (t : Int × Int) : Bool := decide (q = t.1 ∨ q = t.2)
def abtF (w : Web) (p : List Int) (q : Int) : List Int := List.zipWith (fun t x => if tch q t = true then 1 - x else x) w.ts p
def S_l_about : FS := fun ds Post => ∃ w p q, ds = [dW w, TI p, .int q] ∧ w.ok ∧ isP w p ∧ Post (TI (abtF w p q))
theorem abt_take {w : Web} {p : List Int} {q : Int} {i : Nat} (hi : i < w.ts.length) (hp : i < p.length) : (abtF w p q).take (i + 1) = (abtF w p q).take i ++ [if tch q w.ts[i] = true then 1 - p[i] else p[i]] := by
  have hl : i < (abtF w p q).length := by unfold abtF; rw [List.length_zipWith]; omega
  rw [List.take_succ_eq_append_getElem hl]
  simp [abtF]
theorem abt_len {w : Web} {p : List Int} {q : Int} (h : isP w p) : (abtF w p q).length = w.ts.length := by
  unfold abtF; rw [List.length_zipWith, h.1, Nat.min_self]
theorem m_l_about {rk : RK} : ∀ ds Post, S_l_about ds Post → wb_l_about { nx := fun _ => Post .none ∧ rk = .fz, rt := fun d _ => Post d } (startE 6 ds) := by
  rintro ds Post ⟨w, p, q, rfl, o, hp, hP⟩
  have hl := hp.1
  have h20 := o.len
  unfold wb_l_about
  walk_at "start"
  walk_at "run"
  refine for_st [3, 4, 5] (fun pre vs => ∃ l a b, l = (abtF w p q).take pre.length ∧ vs = [some (LI l), a, b]) [_, _, _] rfl ⟨[], _, _, rfl, rfl⟩ ?_ ?_
  · rintro pre x post _ hL ⟨l, a, b, hl2, rfl⟩ R hR
    obtain ⟨rfl, hlt⟩ := enum_pre hL
    have hix : ixD (TI p) (.int (pre.length : Int)) = some (.int p[pre.length]) := by
      have := ixD_tm (f := PyData.int) (L := p) (i := (pre.length : Int)) (by omega) (by omega)
      rw [Int.toNat_natCast, getElem!_pos p pre.length (by omega)] at this
      exact this
    have hle : l.length ≤ 1000 := by rw [hl2, List.length_take, abt_len hp]; omega
    walk_at "run"
    refine i_ex (inD_pair _ _ _) ?_
    walk_at "run"
    rw [Int.toNat_natCast, getElem!_pos p pre.length (by omega)]
    have hx : ixD (.list [.int p[pre.length], .int (1 - p[pre.length])]) (.int (if (decide (q = w.ts[pre.length]!.1) || decide (q = w.ts[pre.length]!.2)) = true then 1 else 0)) = some (.int (if tch q w.ts[pre.length] = true then 1 - p[pre.length] else p[pre.length])) := by
      rw [getElem!_pos w.ts pre.length hlt]
      unfold tch
      by_cases c : q = w.ts[pre.length].1 <;> by_cases c2 : q = w.ts[pre.length].2 <;> simp [c, c2] <;> rfl
    refine i_ex hx ?_
    walk_at "run"
    refine hR [_, _, _] ⟨_, _, _, ?_, rfl⟩
    rw [List.length_append, List.length_singleton, abt_take hlt (by omega), hl2]
  · rintro _ ⟨l, a, b, hl2, rfl⟩
    walk_at "run"
    have : (enumL w.ts).length = w.ts.length := by unfold enumL; rw [List.length_zip, ints_len]; omega
    rw [hl2, this, List.take_of_length_le (by rw [abt_len hp]; exact Nat.le_refl _)]
    exact hP
theorem bitsum {x : Int} (h : x = 0 ∨ x = 1) : 1 - x = 0 ∨ 1 - x = 1 := by omega
theorem abt_isP {w : Web} {p : List Int} {q : Int} (h : isP w p) : isP w (abtF w p q) := by
  refine ⟨abt_len h, fun x hx => ?_⟩
  obtain ⟨t, y, ht, hy, rfl⟩ := mem_zipWith hx
  have := h.2 y hy
  split
  · exact bitsum this
  · exact this
theorem abt_get {w : Web} {p : List Int} {q : Int} (h : isP w p) {k : Nat} (hk : k < p.length) : (abtF w p q)[k]! = if tch q w.ts[k]! = true then 1 - p[k]! else p[k]! := by
  have h1 := h.1
  rw [getElem!_pos (abtF w p q) k (by rw [abt_len h]; omega), getElem!_pos p k hk, getElem!_pos w.ts k (by omega)]
  simp [abtF]
theorem abt_arr {w : Web} {p : List Int} {q : Int} (h : isP w p) {k : Nat} (hk : k < p.length) : arr w (abtF w p q) k = if tch q (arr w p k) = true then ((arr w p k).2, (arr w p k).1) else arr w p k := by
  have hb : p[k]! = 0 ∨ p[k]! = 1 := by rw [getElem!_pos p k hk]; exact h.2 _ (List.getElem_mem hk)
  unfold arr
  rw [abt_get h hk]
  unfold tch
  rcases hb with e | e <;> rw [e] <;> simp <;> split <;> simp_all <;> grind
theorem abt_mem {w : Web} {p : List Int} {q : Int} (h : isP w p) {t : Int × Int} (ht : t ∈ arw w (abtF w p q)) : (tch q t = false ∧ t ∈ arw w p) ∨ (tch q t = true ∧ (t.2, t.1) ∈ arw w p) := by
  obtain ⟨k, hk, rfl⟩ := (mem_arw (abt_isP h)).mp ht
  rw [abt_len h, ← h.1] at hk
  rw [abt_arr h hk]
  have hm : arr w p k ∈ arw w p := (mem_arw h).mpr ⟨k, hk, rfl⟩
  split
  · next e =>
    right
    refine ⟨?_, hm⟩
    unfold tch at e ⊢
    simp only [decide_eq_true_eq] at e ⊢
    exact e.symm
  · next e => left; exact ⟨by simpa using e, hm⟩
/-- turning a source about keeps a fall a fall -/
theorem abt_source {w : Web} (o : w.ok) {p : List Int} {q : Int} (h : isP w p) (a : Acyc (arw w p)) (hs : q ∉ (arw w p).map Prod.snd) : Acyc (arw w (abtF w p q)) := by
  obtain ⟨r, hr⟩ := a
  obtain ⟨K, hK⟩ := bnd r (arw w p)
  refine ⟨fun x => if x = q then K else r x, fun t ht => ?_⟩
  have hq : ∀ t ∈ arw w p, t.2 ≠ q := fun t ht c => hs (List.mem_map.mpr ⟨t, ht, c⟩)
  rcases abt_mem h ht with ⟨e, hm⟩ | ⟨e, hm⟩
  · unfold tch at e
    simp only [decide_eq_false_iff_not, not_or] at e
    simp only
    rw [if_neg fun c => e.1 c.symm, if_neg fun c => e.2 c.symm]
    exact hr t hm
  · unfold tch at e
    simp only [decide_eq_true_eq] at e
    have h1 := hq _ hm
    have h2 := hK _ hm
    simp only at h1 h2
    rcases e with e | e
    · exact absurd e.symm h1
    · simp only
      rw [if_neg h1, if_pos e.symm]
      omega
theorem abt_sink {w : Web} (o : w.ok) {p : List Int} {q : Int} (h : isP w p) (a : Acyc (arw w p)) (hs : q ∉ (arw w p).map Prod.fst) : Acyc (arw w (abtF w p q)) := by
  obtain ⟨r, hr⟩ := a
  obtain ⟨K, hK⟩ := bnd r (arw w p)
  refine ⟨fun x => if x = q then -K else r x, fun t ht => ?_⟩
  have hq : ∀ t ∈ arw w p, t.1 ≠ q := fun t ht c => hs (List.mem_map.mpr ⟨t, ht, c⟩)
  rcases abt_mem h ht with ⟨e, hm⟩ | ⟨e, hm⟩
  · unfold tch at e
    simp only [decide_eq_false_iff_not, not_or] at e
    simp only
    rw [if_neg fun c => e.1 c.symm, if_neg fun c => e.2 c.symm]
    exact hr t hm
  · unfold tch at e
    simp only [decide_eq_true_eq] at e
    have h1 := hq _ hm
    have h2 := hK _ hm
    simp only at h1 h2
    rcases e with e | e
    · simp only
      rw [if_neg h1, if_pos e.symm]
      omega
    · exact absurd e.symm h1
theorem Acyc.end {ls : Ar} (h : Acyc ls) {l : List Int} (ne : l ≠ []) : ∃ p ∈ l, ∀ a ∈ l, (p, a) ∉ ls := by
  obtain ⟨r, hr⟩ := h
  obtain ⟨p, hp, hm⟩ := min_by (fun x => - r x) ne
  refine ⟨p, hp, fun a ha c => ?_⟩
  have := hr _ c
  have := hm a ha
  simp only at *
  omega
/-- _law_wandered: slots 0 pool:p, 1 web:r, 2 fall:v, 3 most:r, 4 k:v, 5 some:v; modes ['pl', 'rd', 'fz', 'rd']; answer fz -/
def wb_l_wandered (S_l_next : FS) (S_l_sinks : FS) (S_l_sources : FS) (S_l_about : FS) : WS :=
  (wSeq (wFor (wiRg1 (wCall S_l_next (waCons (wVar 0) (waCons (wOp2 addD (wVar 3) (wC (.int 1))) waNil)))) (gN 4) (wSeq (wAsg 5 (wOp2 ixD (wList (waCons (wCall S_l_sources (waCons (wVar 1) (waCons (wVar 2) waNil))) (waCons (wCall S_l_sinks (waCons (wVar 1) (waCons (wVar 2) waNil))) waNil))) (wCall S_l_next (waCons (wVar 0) (waCons (wC (.int 2)) waNil)))))
    (wAsg 2 (wCall S_l_about (waCons (wVar 1) (waCons (wVar 2) (waCons (wOp2 ixD (wVar 5) (wCall S_l_next (waCons (wVar 0) (waCons (wBlt lenD (waCons (wVar 5) waNil)) waNil)))) waNil)))))))
    (wRet (wVar 2)))
def S_l_wandered : FS := fun ds Post => ∃ w p m, ds = [.none, dW w, TI p, .int m] ∧ w.ok ∧ isP w p ∧ Acyc (arw w p) ∧ 0 ≤ m ∧ m ≤ 1000 ∧ ∀ q, isP w q → Acyc (arw w q) → Post (TI q)
theorem m_l_wandered {rk : RK} : ∀ ds Post, S_l_wandered ds Post → wb_l_wandered S_l_next S_l_sinks S_l_sources S_l_about { nx := fun _ => Post .none ∧ rk = .fz, rt := fun d _ => Post d } (startE 6 ds) := by
  rintro ds Post ⟨w, p, m, rfl, o, hp, ap, m0, m1, hP⟩
  have n1 := o.n1
  have n9 := o.n9
  unfold wb_l_wandered
  walk_at "start"
  walk_at "run"
  refine next_i (by omega) (by omega) fun r r0 r1 => ?_
  walk_at "run"
  refine for_st [2, 4, 5] (fun pre vs => ∃ q a b, isP w q ∧ Acyc (arw w q) ∧ vs = [some (TI q), a, b]) [_, _, _] rfl ⟨_, _, _, hp, ap, rfl⟩ ?_ ?_
  · rintro pre k post _ hL ⟨q, a, b, hq, aq, rfl⟩ R hR
    have hne : irng 0 w.n ≠ [] := fun c => by have := congrArg List.length c; rw [ints_len] at this; simp at this; omega
    have hrg := arw_rg o (p := q)
    walk_at "run"
    refine ⟨w, q, rfl, o, hq, ?_⟩
    walk_at "run"
    refine ⟨w, q, rfl, o, hq, ?_⟩
    walk_at "run"
    refine next_i (by omega) (by omega) fun s s0 s1 => ?_
    walk_at "run"
    have fin : ∀ l : List Int, l ≠ [] → l.length ≤ 9 → (∀ x ∈ l, Acyc (arw w (abtF w q x))) → S_l_next [.none, .int l.length] fun d => ∃ z, ixD (LI l) d = some z ∧ S_l_about [dW w, TI q, z] fun d2 => R (upd [some .none, some (dW w), some (TI p), some (.int m), none, none] [2, 4, 5] [some d2, some (.int k), some (LI l)]) := by
      intro l ne l9 hl
      have := List.length_pos_iff.mpr ne
      refine next_i (by omega) (by omega) fun j j0 j1 => ?_
      refine i_ex (ixD_lm (f := PyData.int) (by omega) (by omega)) ?_
      refine ⟨w, q, _, rfl, o, hq, ?_⟩
      refine hR [_, _, _] ⟨_, _, _, abt_isP hq, hl _ ?_, rfl⟩
      rw [getElem!_pos l j.toNat (by omega)]
      exact List.getElem_mem _
    have hll : ∀ f : Int → Bool, ((irng 0 w.n).filter f).length ≤ 9 := fun f => by
      have := List.length_filter_le f (irng 0 w.n)
      rw [ints_len] at this
      omega
    rcases (show s = 0 ∨ s = 1 by omega) with rfl | rfl
    · walk_at "run"
      refine fin _ ?_ (hll _) ?_
      · obtain ⟨x, hx, hn⟩ := aq.stuck hne
        refine List.ne_nil_of_mem (a := x) (List.mem_filter.mpr ⟨hx, ?_⟩)
        simp only [Bool.not_eq_true', decide_eq_false_iff_not, List.mem_map]
        rintro ⟨⟨u, v⟩, hm, rfl⟩
        exact hn u (mem_ints.mpr (hrg _ hm).1) hm
      · intro x hx
        have := (List.mem_filter.mp hx).2
        exact abt_source o hq aq (by simpa using this)
    · walk_at "run"
      refine fin _ ?_ (hll _) ?_
      · obtain ⟨x, hx, hn⟩ := aq.end hne
        refine List.ne_nil_of_mem (a := x) (List.mem_filter.mpr ⟨hx, ?_⟩)
        simp only [Bool.not_eq_true', decide_eq_false_iff_not, List.mem_map]
        rintro ⟨⟨u, v⟩, hm, rfl⟩
        exact hn v (mem_ints.mpr (hrg _ hm).2) hm
      · intro x hx
        have := (List.mem_filter.mp hx).2
        exact abt_sink o hq aq (by simpa using this)
  · rintro _ ⟨q, a, b, hq, aq, rfl⟩
    walk_at "run"
    exact hP _ hq aq
/-- turned: slots 0 web:r, 1 pointing:r, 2 k:r; modes ['rd', 'rd', 'rd']; answer fz -/
def wb_turned : WS :=
  (wRet (wOp2 addD (wOp2 addD (wSl slD (wVar 1) woN (woS (wVar 2))) (wTup (waCons (wOp2 subD (wC (.int 1)) (wOp2 ixD (wVar 1) (wVar 2))) waNil))) (wSl slD (wVar 1) (woS (wOp2 addD (wVar 2) (wC (.int 1)))) woN)))
def S_turned : FS := fun ds Post => ∃ (w : Web) (p : List Int) (k : Int), ds = [dW w, TI p, .int k] ∧ p.length ≤ 1000 ∧ 0 ≤ k ∧ k < (p.length : Int) ∧ Post (TI (turnF p k))
theorem m_turned {rk : RK} : ∀ ds Post, S_turned ds Post → wb_turned { nx := fun _ => Post .none ∧ rk = .fz, rt := fun d _ => Post d } (startE 3 ds) := by
  rintro ds Post ⟨w, p, k, rfl, hl, k0, k1, hP⟩
  unfold wb_turned
  walk_at "start"
  walk_at "run"
  refine i_ex (addD_tm1 (by rw [List.length_take]; omega)) ?_
  walk_at "run"
  refine i_ex (addD_tm (by simp only [List.length_append, List.length_take, List.length_drop, List.length_cons, List.length_nil]; omega)) ?_
  rw [put_eq _ _ _ (by omega) (by omega)]
  exact hP
/-- is_free: slots 0 web:r, 1 fall:r, 2 k:r; modes ['rd', 'rd', 'rd']; answer fz -/
def wb_is_free (S_is_fall : FS) (S_turned : FS) : WS :=
  (wRet (wCall S_is_fall (waCons (wVar 0) (waCons (wCall S_turned (waCons (wVar 0) (waCons (wVar 1) (waCons (wVar 2) waNil)))) waNil))))
def S_is_free : FS := fun ds Post => ∃ (w : Web) (p : List Int) (k : Int), ds = [dW w, TI p, .int k] ∧ w.ok ∧ isP w p ∧ 0 ≤ k ∧ k < (p.length : Int) ∧ Post (.bool (acB (arw w (turnF p k))))
theorem m_is_free {rk : RK} : ∀ ds Post, S_is_free ds Post → wb_is_free S_is_fall S_turned { nx := fun _ => Post .none ∧ rk = .fz, rt := fun d _ => Post d } (startE 3 ds) := by
  rintro ds Post ⟨w, p, k, rfl, o, hp, k0, k1, hP⟩
  have hl := hp.1
  have h20 := o.len
  unfold wb_is_free
  walk_at "start"
  walk_at "run"
  refine ⟨w, p, k, rfl, by omega, k0, k1, ?_⟩
  walk_at "run"
  exact ⟨w, _, rfl, o, turn_isP hp k, hP⟩
/-- free_ties: slots 0 web:r, 1 fall:r, 2 k:v; modes ['rd', 'rd']; answer nw -/
def wb_free_ties (S_is_free : FS) : WS :=
  (wRet (wComp (wiRg1 (wBlt lenD (waCons (wVar 1) waNil))) (gN 2) [2] (tVal (wCall S_is_free (waCons (wVar 0) (waCons (wVar 1) (waCons (wVar 2) waNil))))) (wVar 2)))
noncomputable def freesF (w : Web) (p : List Int) : List Int := (irng 0 p.length).filter fun k => acB (arw w (turnF p k))
def S_free_ties : FS := fun ds Post => ∃ (w : Web) (p : List Int), ds = [dW w, TI p] ∧ w.ok ∧ isP w p ∧ Post (LI (freesF w p))
theorem m_free_ties {rk : RK} : ∀ ds Post, S_free_ties ds Post → wb_free_ties S_is_free { nx := fun _ => Post .none ∧ rk = .fz, rt := fun d _ => Post d } (startE 3 ds) := by
  rintro ds Post ⟨w, p, rfl, o, hp, hP⟩
  have hl := hp.1
  have h20 := o.len
  unfold wb_free_ties
  walk_at "start"
  walk_at "run"
  refine comp_fil (fun k => acB (arw w (turnF p k))) (fun k hk => ?_) ?_
  · have := mem_ints.mp hk
    refine ⟨_, rfl, fun R hR => ?_, fun _ R hR => ?_, rfl⟩
    · walk_at "run"
      refine ⟨w, p, k, rfl, o, hp, this.1, this.2, ?_⟩
      walk_at "run"
      exact hR
    · walk_at "run"
      exact hR
  walk_at "run"
  exact hP
/-- unlike_ties: slots 0 one:r, 1 other:r, 2 k:v; modes ['rd', 'rd']; answer fz -/
def wb_unlike_ties : WS :=
  (wRet (wComp (wiRg1 (wBlt lenD (waCons (wVar 0) waNil))) (gN 2) [2] (tVal (wOp2 neD (wOp2 ixD (wVar 0) (wVar 2)) (wOp2 ixD (wVar 1) (wVar 2)))) (wVar 2)))
def S_unlike_ties : FS := fun ds Post => ∃ (p q : List Int), ds = [TI p, TI q] ∧ p.length = q.length ∧ p.length ≤ 1000 ∧ Post (LI (unl p q))
theorem m_unlike_ties {rk : RK} : ∀ ds Post, S_unlike_ties ds Post → wb_unlike_ties { nx := fun _ => Post .none ∧ rk = .fz, rt := fun d _ => Post d } (startE 3 ds) := by
  rintro ds Post ⟨p, q, rfl, hl, hl2, hP⟩
  unfold wb_unlike_ties
  walk_at "start"
  walk_at "run"
  refine comp_fil (fun k => decide (gI p k ≠ gI q k)) (fun k hk => ?_) ?_
  · have := mem_ints.mp hk
    refine ⟨_, rfl, fun R hR => ?_, fun _ R hR => ?_, rfl⟩
    · walk_at "run"
      simpa [gI] using hR
    · walk_at "run"
      exact hR
  walk_at "run"
  exact hP
/-- road: slots 0 web:r, 1 one:v, 2 other:r, 3 found:o, 4 here:v, 5 free:v, 6 k:v; modes ['rd', 'fz', 'rd']; answer nw -/
def wb_road (S_unlike_ties : FS) (S_is_free : FS) (S_turned : FS) : WS :=
  (wSeq (wAsg 3 (wList waNil))
    (wSeq (wAsg 4 (wVar 1))
    (wSeq (wWhile (tVal (wOp2 neD (wVar 4) (wVar 2))) (wSeq (wAsg 5 (wComp (wiSeq (wCall S_unlike_ties (waCons (wVar 4) (waCons (wVar 2) waNil)))) (gN 6) [6] (tVal (wCall S_is_free (waCons (wVar 0) (waCons (wVar 4) (waCons (wVar 6) waNil))))) (wVar 6)))
    (wSeq (wExpr (wMut 3 appendF (waCons (wOp2 ixD (wVar 5) (wC (.int 0))) waNil)))
    (wAsg 4 (wCall S_turned (waCons (wVar 0) (waCons (wVar 4) (waCons (wOp2 ixD (wVar 5) (wC (.int 0))) waNil))))))))
    (wRet (wVar 3)))))
def S_road : FS := fun ds Post => ∃ (w : Web) (p q : List Int), ds = [dW w, TI p, TI q] ∧ w.ok ∧ isP w p ∧ isP w q ∧ Acyc (arw w p) ∧ Acyc (arw w q) ∧ Post (LI (roadF w q (unl p q).length p))
theorem m_road {rk : RK} : ∀ ds Post, S_road ds Post → wb_road S_unlike_ties S_is_free S_turned { nx := fun _ => Post .none ∧ rk = .fz, rt := fun d _ => Post d } (startE 7 ds) := by
  rintro ds Post ⟨w, p, q, rfl, o, hp, hq, ap, aq, hP⟩
  have h20 := o.len
  have hql := hq.1
  unfold wb_road
  walk_at "start"
  walk_at "run"
  refine while_st [3, 4, 5, 6] (fun vs => ∃ here found a b, isP w here ∧ Acyc (arw w here) ∧ found ++ roadF w q (unl here q).length here = roadF w q (unl p q).length p ∧ found.length + (unl here q).length ≤ 20 ∧ vs = [some (LI found), some (TI here), a, b]) (fun vs => match vs with | some (.list l) :: _ => 21 - l.length | _ => 0) [_, _, _, _] rfl ⟨p, [], _, _, hp, ap, rfl, ?_, rfl⟩ ?_
  · have := List.length_filter_le (fun k => decide (gI p k ≠ gI q k)) (irng 0 p.length)
    rw [ints_len] at this
    have := hp.1
    unfold unl
    simp only [List.length_nil]
    omega
  rintro _ ⟨here, found, a, b, hh, ah, he, hle, rfl⟩ R hR
  have hhl := hh.1
  by_cases e : here = q
  · walk_at "run"
    subst e
    rw [unl_self] at he
    simp only [List.length_nil, roadF, List.append_nil] at he
    rw [← he] at hP
    exact hP
  · walk_at "run"
    refine ⟨here, q, rfl, by omega, by omega, ?_⟩
    walk_at "run"
    obtain ⟨k, r, e1, hk, hf⟩ := free_head o hh hq ah aq e
    obtain ⟨⟨k0, k1⟩, -⟩ := mem_unl.mp hk
    refine comp_fil (fun k => acB (arw w (turnF here k))) (fun k hk => ?_) ?_
    · have := mem_ints.mp (List.mem_filter.mp hk).1
      refine ⟨_, rfl, fun R hR => ?_, fun _ R hR => ?_, rfl⟩
      · walk_at "run"
        refine ⟨w, here, k, rfl, o, hh, this.1, this.2, ?_⟩
        walk_at "run"
        exact hR
      · walk_at "run"
        exact hR
    have e2 : (unl here q).filter (fun k => acB (arw w (turnF here k))) = k :: r := e1
    have e3 : ixD (LI (k :: r)) (.int 0) = some (.int k) := ixD_lm (f := PyData.int) (L := k :: r) (i := 0) (by omega) (by simp)
    rw [e2]
    walk_at "run"
    refine ⟨w, here, k, rfl, by omega, k0, k1, ?_⟩
    have hpm := (unl_perm hh hq hk).length_eq
    rw [List.length_cons] at hpm
    have hroad : roadF w q (unl here q).length here = k :: roadF w q (unl (turnF here k) q).length (turnF here k) := by
      rw [← hpm]
      conv => lhs; unfold roadF
      rw [e1, List.headD_cons]
    walk_at "run"
    refine hR [_, _, _, _] ⟨turnF here k, found ++ [k], _, _, turn_isP hh k, hf, ?_, ?_, rfl⟩ ?_
    · rw [List.append_assoc, ← he, hroad]; rfl
    · rw [List.length_append, List.length_singleton]; omega
    · simp only [List.length_map, List.length_append, List.length_singleton]; omega
end Lib
end G7

/-! k17: free ties, and why there are so many -/
namespace G7

local macro_rules | `(tactic| walk_at "op") => `(tactic| first
  | with_reducible exact addD_i _ _ | with_reducible exact subD_i _ _ | with_reducible exact ltD_i _ _ | with_reducible exact leD_i _ _ | with_reducible exact gtD_i _ _ | with_reducible exact geD_i _ _
  | with_reducible exact eqD_i _ _ | with_reducible exact neD_i _ _ | with_reducible exact lenD_lm | with_reducible exact lenD_tm | with_reducible exact lenD_l _ | with_reducible exact lenD_t _ | with_reducible exact dP_0 _ | with_reducible exact dP_1 _
  | with_reducible exact ixD_t0 _ _ | with_reducible exact ixD_t1 _ _ _ | with_reducible exact ixD_t2 _ _ _ _ | with_reducible exact ixD_l0 _ _ | with_reducible exact ixD_l0m | with_reducible exact ixD_t0m | exact eqD_sT | exact eqD_sF | exact neD_sT | exact neD_sF | with_reducible exact ixD_l1 _ _ _
  | with_reducible exact Lib.dW_0 _ | with_reducible exact Lib.dW_1 _ | with_reducible exact tupD_l _ | with_reducible exact tupD_t _ | with_reducible exact lstD_l _ | with_reducible exact lstD_t _ | with_reducible exact max2D_i _ _ | with_reducible exact min2D_i _ _
  | with_reducible exact isTD_i | with_reducible exact tupRevD_m | ((with_reducible refine' indexD_li ?_); with_reducible assumption) | ((with_reducible refine' indexD_xi ?_); with_reducible assumption) | with_reducible exact isTD_s _ _ | with_reducible exact powD_6 | with_reducible exact powD_16 | with_reducible exact powD_18 | with_reducible exact isTD_t _ _ | with_reducible exact isTD_l _ _ | with_reducible exact isTD_b _ _ | with_reducible exact isTD_n _ | with_reducible exact isD_bb _ _ | with_reducible exact isNotD_bb _ _ | with_reducible exact isD_n' _ | with_reducible exact isD_lN _ | with_reducible exact isD_tN _ | with_reducible exact isNotD_lN _ | with_reducible exact isNotD_tN _ | with_reducible exact intD_b _ | with_reducible exact intD_i _ | with_reducible exact negD_i _ | with_reducible exact eqD_b _ _ | with_reducible exact neD_b _ _
  | with_reducible exact neD_l0 _ | with_reducible exact eqD_l0 _ | with_reducible exact eqD_li _ _ | with_reducible exact neD_li _ _ | with_reducible exact eqD_ti _ _ | with_reducible exact neD_ti _ _
  | with_reducible exact eqD_lp _ _ | with_reducible exact neD_lp _ _ | with_reducible exact eqD_tp _ _ | with_reducible exact neD_tp _ _
  | with_reducible exact inD_li _ _ | with_reducible exact inD_ti _ _ | with_reducible exact notInD_li _ _ | with_reducible exact notInD_ti _ _ | with_reducible exact inD_lp _ _ | with_reducible exact inD_tp _ _
  | with_reducible exact notInD_lp _ _ | with_reducible exact notInD_tp _ _ | with_reducible exact inD_lp' _ _ _ | with_reducible exact inD_tp' _ _ _ | with_reducible exact notInD_lp' _ _ _ | with_reducible exact notInD_tp' _ _ _
  | with_reducible exact inD_pair _ _ _ | with_reducible exact sortedAD_i _ | with_reducible exact sortedAD_p _ | with_reducible exact allD_b _ | with_reducible exact anyD_b _
  | ((with_reducible refine' addD_1m ?_); omega) | with_reducible exact Lib.maxAD_0 _ | with_reducible exact Lib.din_dI _ _ | with_reducible exact Lib.dinTD_p _ _ | with_reducible exact Lib.dninTD_p _ _ | with_reducible exact Lib.lenTD_p _ | with_reducible exact Lib.sortTLD_p _ | with_reducible exact Lib.dnin_dI _ _ | ((with_reducible apply Lib.dget_dI); with_reducible assumption) | ((with_reducible refine' repLD_0 ?_ ?_) <;> omega) | ((with_reducible refine' slT_tom ?_); omega) | ((with_reducible refine' slT_frm ?_); omega) | ((with_reducible refine' slL_tom ?_); omega) | ((with_reducible refine' slL_frm ?_); omega) | ((with_reducible refine' modD_i ?_); omega) | ((with_reducible refine' fdivD_i ?_ ?_) <;> omega) | ((with_reducible refine' mulID_i (okMul_l ?_ ?_)) <;> omega) | ((with_reducible refine' mulID_i (okMul_r ?_ ?_)) <;> omega)
  | ((with_reducible refine' ixD_lm ?_ ?_) <;> omega) | ((with_reducible refine' ixD_tm ?_ ?_) <;> omega) | with_reducible assumption)
local macro_rules | `(tactic| walk_at "env") => `(tactic| simp only [List.set_cons_zero, List.set_cons_succ, upd, wp_cons, wp_nil, back_cons, back_nil, List.getElem?_cons_zero, List.getElem?_cons_succ, Option.getD_some, toF])
local macro_rules | `(tactic| walk_at "cond") => `(tactic| first | assumption | omega | exact rfl | (focus (simp; done)))
local macro_rules | `(tactic| walk_at "mut") => `(tactic| first | ((with_reducible refine' popAtF_m ?_ ?_) <;> omega) | ((with_reducible refine' appendF_m ?_); first | omega | (simp only [List.length_append, List.length_map, List.length_cons, List.length_nil]; omega)) | ((with_reducible refine' removeF_i ?_); (first | assumption | (simp; done))) | ((with_reducible refine' extendF_m ?_); first | omega | (simp only [List.length_append, List.length_map, List.length_cons, List.length_nil]; omega)))
local macro_rules | `(tactic| walk_at "s") => `(tactic| first
  | with_reducible refine' i_seq ?_ | ((with_reducible apply i_frz); (exact rfl); (first | exact nt_l | exact nt_d)) | ((with_reducible apply i_asV); (exact rfl)) | ((with_reducible apply i_asO); (exact rfl); (first | exact nt_l | exact nt_d)) | with_reducible refine' i_op2 ?_ | with_reducible refine' i_acons ?_ | with_reducible refine' i_anil ?_ | ((with_reducible apply i_var); exact rfl) | with_reducible refine' i_c ?_
  | with_reducible refine' i_asg ?_ | with_reducible refine' i_par ?_ | with_reducible refine' i_par2 ?_ | with_reducible refine' i_call ?_ | with_reducible refine' i_blt ?_ | with_reducible refine' i_op1 ?_ | with_reducible refine' i_tup ?_ | with_reducible refine' i_list ?_
  | ((with_reducible apply i_ex); walk_at "op") | ((with_reducible apply i_exk); walk_at "op")
  | with_reducible refine' i_val ?_ | with_reducible refine' i_exb ?_ | with_reducible refine' i_if ?_ | with_reducible refine' i_ret ?_ | with_reducible refine' i_nil ?_
  | with_reducible refine' i_T ?_ | with_reducible refine' i_F ?_ | with_reducible refine' i_tand ?_ | with_reducible refine' i_tor ?_ | with_reducible refine' i_tnot ?_ | with_reducible refine' i_yes ?_
  | with_reducible refine' i_and ?_ | with_reducible refine' i_or ?_ | with_reducible refine' i_not ?_ | with_reducible refine' i_ife ?_ | with_reducible refine' i_chain ?_
  | with_reducible refine' i_comp ?_ | with_reducible refine' i_iseq ?_ | with_reducible refine' i_irg1 ?_ | with_reducible refine' i_irg2 ?_ | with_reducible refine' i_izip ?_ | with_reducible refine' i_zipT ?_ | with_reducible refine' i_zipL ?_ | with_reducible refine' i_ienum ?_ | ((with_reducible apply i_enum); exact rfl) | with_reducible refine' i_irev ?_
  | with_reducible refine' i_for ?_ | with_reducible refine' i_lstrg ?_ | with_reducible refine' i_asgG ?_ | with_reducible refine' i_asgP ?_ | with_reducible refine' i_expr ?_ | with_reducible refine' i_retN ?_ | with_reducible refine' i_brk ?_ | with_reducible refine' i_cnt ?_
  | with_reducible refine' i_on ?_ | with_reducible refine' i_os ?_ | with_reducible refine' i_sl ?_ | ((with_reducible apply i_exl); exact rfl)
  | ((with_reducible refine' i_rg1 ?_ ?_); (constructor <;> omega)) | ((with_reducible refine' i_rg2 ?_ ?_); (refine ⟨?_, ?_, ?_, ?_⟩ <;> omega))
  | with_reducible refine' i_exi ?_
  | (with_reducible refine' i_len (Nat.le_of_ble_eq_true rfl) ?_)
  | ((with_reducible apply i_g); exact rfl) | ((with_reducible refine' i_plix ?_ ?_); exact rfl) | with_reducible refine' i_plset ?_ | with_reducible refine' i_np ?_
  | with_reducible refine' i_idxL ?_ | with_reducible refine' i_idl ?_ | with_reducible refine' i_idx ?_
  | ((with_reducible apply i_mut1); (exact rfl); walk_at "mut")
  | ((with_reducible apply Lib.i_keysT); exact rfl) | (with_reducible refine' Lib.i_dputT ?_) | ((with_reducible apply Lib.i_dputT0); exact rfl) | ((with_reducible apply Lib.i_dputT1); (exact rfl); omega)
  | (with_reducible refine' Lib.i_dput ?_) | ((with_reducible apply Lib.i_dput0); exact rfl) | ((with_reducible apply Lib.i_dput1); (exact rfl); omega)
  | ((with_reducible refine' i_dT ?_ ?_); walk_at "cond") | ((with_reducible refine' i_dF ?_ ?_); walk_at "cond") | ((with_reducible refine' i_ndT ?_ ?_); walk_at "cond") | ((with_reducible refine' i_ndF ?_ ?_); walk_at "cond")
  | ((with_reducible refine' i_bT ?_ ?_); (first | with_reducible assumption | exact rfl)) | ((with_reducible refine' i_bF ?_ ?_); (first | with_reducible assumption | exact rfl))
  | ((with_reducible apply i_setixm); (exact rfl); omega; omega) | (with_reducible refine' i_setix ?_) | ((with_reducible apply i_setix0); exact rfl) | ((with_reducible apply i_mut); exact rfl))
local macro_rules | `(tactic| walk_at "run") => `(tactic| (repeat (walk_at "s")); try walk_at "env")
local macro_rules | `(tactic| walk_at "start") => `(tactic| simp only [startE, List.map_cons, List.map_nil, List.length_cons, List.length_nil, Nat.reduceAdd, Nat.reduceSub, Nat.zero_add, List.replicate_succ, List.replicate_zero, List.cons_append, List.nil_append])
local macro_rules | `(tactic| walk_at "len") => `(tactic| first | omega | (simp only [List.length_map, List.length_append, List.length_cons, List.length_nil]; omega) | (refine Nat.le_trans ?_ (Nat.le_refl _); have := List.length_filter_le; simp_all; done))
local macro_rules | `(tactic| walk_at "opl") => `(tactic| first | ((with_reducible refine' addD_lm ?_); walk_at "len") | ((with_reducible refine' addD_tm ?_); walk_at "len") | ((with_reducible refine' addLD_lm ?_); walk_at "len"))
/-- a comprehension: of what is walked itself, of ints, pairs, truths -/
local macro_rules | `(tactic| walk_at "comp") => `(tactic| first
  | (refine comp_fil ?_ (fun x hx => ?_) ?_; rotate_left 1; focus ((try have hx1 := Fact.use (by assumption) hx); (try have hx2 := mem_ints.mp hx); (try dsimp only at hx1); refine ⟨_, rfl, fun R hR => ?_, fun hp R hR => ?_, rfl⟩ <;> (repeat (walk_at "s")) <;> exact hR))
  | (refine comp_all (en2 := PySem.PyData.int) ?_ (fun x hx => ?_) ?_; rotate_left 1; focus ((try have hx1 := Fact.use (by assumption) hx); (try have hx2 := mem_ints.mp hx); (try dsimp only at hx1); refine ⟨_, rfl, fun R hR => ?_, rfl⟩ <;> (repeat (walk_at "s")) <;> exact hR))
  | (refine comp_all (en2 := PySem.PyData.bool) ?_ (fun x hx => ?_) ?_; rotate_left 1; focus ((try have hx1 := Fact.use (by assumption) hx); (try have hx2 := mem_ints.mp hx); (try dsimp only at hx1); refine ⟨_, rfl, fun R hR => ?_, rfl⟩ <;> (repeat (walk_at "s")) <;> exact hR))
  | (refine comp_all (en2 := dP) ?_ (fun x hx => ?_) ?_; rotate_left 1; focus ((try have hx1 := Fact.use (by assumption) hx); (try have hx2 := mem_ints.mp hx); (try dsimp only at hx1); refine ⟨_, rfl, fun R hR => ?_, rfl⟩ <;> (repeat (walk_at "s")) <;> exact hR))
  | (refine comp_el (en2 := PySem.PyData.int) ?_ ?_ (fun x hx => ?_) ?_; rotate_left 2; focus ((try have hx1 := Fact.use (by assumption) hx); (try have hx2 := mem_ints.mp hx); (try dsimp only at hx1); refine ⟨_, rfl, fun R hR => ?_, fun hp R hR => ?_, rfl⟩ <;> (repeat (walk_at "s")) <;> exact hR))
  | (refine comp_el (en2 := dP) ?_ ?_ (fun x hx => ?_) ?_; rotate_left 2; focus ((try have hx1 := Fact.use (by assumption) hx); (try have hx2 := mem_ints.mp hx); (try dsimp only at hx1); refine ⟨_, rfl, fun R hR => ?_, fun hp R hR => ?_, rfl⟩ <;> (repeat (walk_at "s")) <;> exact hR))
  | (refine comp_el (en2 := PySem.PyData.bool) ?_ ?_ (fun x hx => ?_) ?_; rotate_left 2; focus ((try have hx1 := Fact.use (by assumption) hx); (try have hx2 := mem_ints.mp hx); (try dsimp only at hx1); refine ⟨_, rfl, fun R hR => ?_, fun hp R hR => ?_, rfl⟩ <;> (repeat (walk_at "s")) <;> exact hR))
  | (refine comp_allD (en2 := PySem.PyData.int) ?_ (fun x hx => ?_) ?_; rotate_left 1; focus ((try have hx1 := Fact.use (by assumption) hx); (try dsimp only at hx1); refine ⟨_, rfl, fun R hR => ?_, rfl⟩ <;> (repeat (walk_at "s")) <;> exact hR))
  | (refine comp_allD (en2 := PySem.PyData.bool) ?_ (fun x hx => ?_) ?_; rotate_left 1; focus ((try have hx1 := Fact.use (by assumption) hx); (try dsimp only at hx1); refine ⟨_, rfl, fun R hR => ?_, rfl⟩ <;> (repeat (walk_at "s")) <;> exact hR)))
local macro_rules | `(tactic| walk_at "runc") => `(tactic| (repeat (first | walk_at "s" | walk_at "comp")); try walk_at "env")
namespace Lib
open PySem
/-- _law_reached: slots 0 flows:r, 1 begin:v, 2 found:o, 3 at:v, 4 start:v, 5 end:v; modes ['rd', 'fz']; answer fz -/
def wb_l_reached : WS :=
  (wSeq (wAsg 2 (wList (waCons (wVar 1) waNil)))
    (wSeq (wAsg 3 (wC (.int 0)))
    (wSeq (wWhile (tVal (wOp2 ltD (wVar 3) (wBlt lenD (waCons (wVar 2) waNil)))) (wSeq (wFor (wiSeq (wVar 0)) (gT [(gN 4), (gN 5)]) (wIf (tAnd (tVal (wOp2 eqD (wVar 4) (wOp2 ixD (wVar 2) (wVar 3)))) (tVal (wOp2 notInD (wVar 5) (wVar 2)))) (wExpr (wMut 2 appendF (waCons (wVar 5) waNil))) wNil))
    (wAsg 3 (wOp2 addD (wVar 3) (wC (.int 1))))))
    (wRet (wVar 2)))))
def S_l_reached : FS := fun ds Post => ∃ (ls : Ar) (b n : Int), ds = [LP ls, .int b] ∧ n ≤ 99 ∧ (0 ≤ b ∧ b < n) ∧ (∀ t ∈ ls, 0 ≤ t.2 ∧ t.2 < n) ∧ ∀ r : List Int, (∀ x, x ∈ r ↔ Way ls b x) → Post (LI r)
theorem m_l_reached {rk : RK} : ∀ ds Post, S_l_reached ds Post → wb_l_reached { nx := fun _ => Post .none ∧ rk = .fz, rt := fun d _ => Post d } (startE 6 ds) := by
  rintro ds Post ⟨ls, b, n, rfl, n9, hb, hrg, hP⟩
  unfold wb_l_reached
  have hlen : ∀ fs : List Int, fs.Nodup → (∀ x ∈ fs, 0 ≤ x ∧ x < n) → (fs.length : Int) ≤ n := fun fs nd h => by
    have h1 := nodup_le (m := irng 0 n) nd fun x hx => mem_ints.mpr (h x hx)
    rw [ints_len] at h1
    omega
  walk_at "start"
  walk_at "run"
  refine while_st [3, 2, 4, 5] (fun vs => ∃ (fs : List Int) (k : Int) (x y : Option D), fs.Nodup ∧ b ∈ fs ∧ (∀ x ∈ fs, Way ls b x) ∧ (∀ x ∈ fs, 0 ≤ x ∧ x < n) ∧ (0 ≤ k ∧ k ≤ fs.length) ∧ (∀ j : Nat, j < k → ∀ y, (fs[j]!, y) ∈ ls → y ∈ fs) ∧ vs = [some (.int k), some (LI fs), x, y])
    (fun vs => match vs with | some (.int k) :: _ => (100 - k).toNat | _ => 0) [_, _, _, _] rfl ⟨[b], 0, _, _, by simp, by simp, by simp; exact .nil, by simpa using hb, by simp, fun j h => by omega, rfl⟩ ?_
  rintro _ ⟨fs, k, x, y, nd, hm, hw, hr, ⟨k0, k1⟩, hc, rfl⟩ R hR
  have hl := hlen fs nd hr
  by_cases e : k < fs.length
  · walk_at "run"
    refine for_st (enc := dP) [2, 4, 5] (fun pre vs => ∃ (gs r : List Int) (x y : Option D), gs = fs ++ r ∧ gs.Nodup ∧ (∀ x ∈ gs, Way ls b x) ∧ (∀ x ∈ gs, 0 ≤ x ∧ x < n) ∧ (∀ t ∈ pre, t.1 = fs[k.toNat]! → t.2 ∈ gs) ∧ vs = [some (LI gs), x, y]) [_, _, _] rfl ⟨fs, [], _, _, by simp, nd, hw, hr, by simp, rfl⟩ ?_ ?_
    · rintro pre t post _ hL ⟨gs, r, x, y, hg, nd2, hw2, hr2, hc2, rfl⟩ R2 hR2
      have hl2 := hlen gs nd2 hr2
      have hgl : gs.length = fs.length + r.length := by rw [hg, List.length_append]
      have hk : gs[k.toNat]! = fs[k.toNat]! := by
        rw [getElem!_pos gs k.toNat (by omega), getElem!_pos fs k.toNat (by omega)]
        subst hg
        exact List.getElem_append_left (by omega)
      have ht : t ∈ ls := by rw [hL]; simp
      by_cases e1 : t.1 = gs[k.toNat]!
      · by_cases e2 : t.2 ∈ gs
        · walk_at "run"
          refine hR2 [_, _, _] ⟨gs, r, _, _, hg, nd2, hw2, hr2, fun s hs h => ?_, rfl⟩
          rcases List.mem_append.mp hs with hs | hs
          · exact hc2 s hs h
          · simp at hs; subst hs; exact e2
        · walk_at "run"
          refine hR2 [_, _, _] ⟨gs ++ [t.2], r ++ [t.2], _, _, by rw [hg, List.append_assoc], ?_, fun x hx => ?_, fun x hx => ?_, fun s hs h => ?_, rfl⟩
          · rw [List.nodup_append]
            exact ⟨nd2, by simp, fun a ha b hb e => by simp at hb; subst hb; subst e; exact e2 ha⟩
          · rcases List.mem_append.mp hx with hx | hx
            · exact hw2 x hx
            · simp at hx; subst hx
              refine .snoc (b := t.1) (hw2 _ ?_) ht
              rw [e1, getElem!_pos gs k.toNat (by omega)]
              exact List.getElem_mem _
          · rcases List.mem_append.mp hx with hx | hx
            · exact hr2 x hx
            · simp at hx; subst hx; exact hrg t ht
          · rcases List.mem_append.mp hs with hs | hs
            · exact List.mem_append_left _ (hc2 s hs h)
            · simp at hs; subst hs; simp
      · walk_at "run"
        refine hR2 [_, _, _] ⟨gs, r, _, _, hg, nd2, hw2, hr2, fun s hs h => ?_, rfl⟩
        rcases List.mem_append.mp hs with hs | hs
        · exact hc2 s hs h
        · simp at hs; subst hs; rw [hk] at e1; exact absurd h e1
    · rintro _ ⟨gs, r, x, y, hg, nd2, hw2, hr2, hc2, rfl⟩
      walk_at "run"
      have hgl : gs.length = fs.length + r.length := by rw [hg, List.length_append]
      refine hR [_, _, _, _] ⟨gs, k + 1, _, _, nd2, ?_, hw2, hr2, ⟨by omega, by omega⟩, fun j hj y hy => ?_, rfl⟩ ?_
      · rw [hg]; exact List.mem_append_left _ hm
      · have he : gs[j]! = fs[j]! := by
          rw [getElem!_pos gs j (by omega), getElem!_pos fs j (by omega)]
          subst hg
          exact List.getElem_append_left (by omega)
        rw [he] at hy
        by_cases ej : (j : Int) = k
        · have : j = k.toNat := by omega
          subst this
          exact hc2 _ hy rfl
        · rw [hg]
          exact List.mem_append_left _ (hc j (by omega) y hy)
      · simp only; omega
  · walk_at "run"
    refine hP fs fun x => ⟨hw x, fun h => ?_⟩
    induction h with
    | nil => exact hm
    | @snoc u v h1 h2 ih =>
      obtain ⟨j, hj, e⟩ := List.getElem_of_mem ih
      refine hc j (by omega) v ?_
      rw [getElem!_pos fs j hj, e]
      exact h2
/-- _law_free: slots 0 web:r, 1 fall:r, 2 flows:v, 3 found:o, 4 k:v, 5 begin:v, 6 end:v; modes ['rd', 'rd']; answer fz -/
def wb_l_free (S_l_flows : FS) (S_l_reached : FS) : WS :=
  (wSeq (wAsg 2 (wCall S_l_flows (waCons (wVar 0) (waCons (wVar 1) waNil))))
    (wSeq (wAsg 3 (wList waNil))
    (wSeq (wFor (wiEnum (wVar 2)) (gT [(gN 4), (gT [(gN 5), (gN 6)])]) (wIf (tVal (wOp2 notInD (wVar 6) (wCall S_l_reached (waCons (wOp2 addD (wSl slD (wVar 2) woN (woS (wVar 4))) (wSl slD (wVar 2) (woS (wOp2 addD (wVar 4) (wC (.int 1)))) woN)) (waCons (wVar 5) waNil))))) (wExpr (wMut 3 appendF (waCons (wVar 4) waNil))) wNil))
    (wRet (wVar 3)))))
def S_l_free : FS := fun ds Post => ∃ (w : Web) (p : List Int), ds = [dW w, TI p] ∧ w.ok ∧ isP w p ∧ Acyc (arw w p) ∧ Post (LI (freesF w p))
theorem less_mem {w : Web} (o : w.ok) {p : List Int} (h : isP w p) {k : Nat} (hk : k < p.length) (t : Int × Int) : t ∈ (arw w p).take k ++ (arw w p).drop (k + 1) ↔ t ∈ but w p k := by
  have hl : (arw w p).length = p.length := by rw [arw_len h, h.1]
  have hg := arw_get h hk
  unfold but
  simp only [List.mem_append, List.mem_filter, decide_eq_true_eq, ne_eq]
  rw [List.mem_iff_getElem?, List.mem_iff_getElem?]
  constructor
  · rintro (⟨j, hj⟩ | ⟨j, hj⟩)
    · rw [List.getElem?_take] at hj
      split at hj
      · next c =>
        have hjp : j < p.length := by omega
        have e := arw_get h hjp
        rw [e] at hj
        have hj := Option.some.inj hj
        exact ⟨hj ▸ (mem_arw h).mpr ⟨j, hjp, rfl⟩, fun c2 => by have := arr_inj o h hjp hk (hj.trans c2); omega⟩
      · simp at hj
    · rw [List.getElem?_drop] at hj
      have hjp : k + 1 + j < p.length := by
        rcases Nat.lt_or_ge (k + 1 + j) p.length with c | c
        · exact c
        · rw [List.getElem?_eq_none (by omega)] at hj; simp at hj
      have e := arw_get h hjp
      rw [e] at hj
      have hj := Option.some.inj hj
      exact ⟨hj ▸ (mem_arw h).mpr ⟨_, hjp, rfl⟩, fun c2 => by have := arr_inj o h hjp hk (hj.trans c2); omega⟩
  · rintro ⟨h1, h2⟩
    obtain ⟨j, hj, rfl⟩ := (mem_arw h).mp h1
    by_cases c : j < k
    · left
      exact ⟨j, by rw [List.getElem?_take, if_pos c]; exact arw_get h hj⟩
    · right
      have : j ≠ k := fun c2 => h2 (by rw [c2])
      exact ⟨j - (k + 1), by rw [List.getElem?_drop, show k + 1 + (j - (k + 1)) = j by omega]; exact arw_get h hj⟩
theorem filt_take {α : Type} {f : Int → Bool} {n : Int} {i : Nat} (hi : (i : Int) < n) (h0 : 0 ≤ n) : ((irng 0 n).take (i + 1)).filter f = ((irng 0 n).take i).filter f ++ (if f i = true then [(i : Int)] else []) := by
  rw [List.take_add_one, List.filter_append]
  have : (irng 0 n)[i]? = some (i : Int) := by rw [ints_get (by omega)]; simp
  rw [this]
  congr 1
  cases h : f i <;> simp [h]
theorem m_l_free {rk : RK} : ∀ ds Post, S_l_free ds Post → wb_l_free S_l_flows S_l_reached { nx := fun _ => Post .none ∧ rk = .fz, rt := fun d _ => Post d } (startE 7 ds) := by
  rintro ds Post ⟨w, p, rfl, o, hp, ap, hP⟩
  have hl := hp.1
  have h20 := o.len
  have n9 := o.n9
  have hal : (arw w p).length = p.length := by rw [arw_len hp, hp.1]
  have hrg := arw_rg o (p := p)
  unfold wb_l_free
  walk_at "start"
  walk_at "run"
  refine ⟨w, p, rfl, by omega, hp, ?_⟩
  walk_at "run"
  refine for_st (L := enumL (arw w p)) [3, 4, 5, 6] (fun pre vs => ∃ l a b c, l = ((irng 0 p.length).take pre.length).filter (fun k => acB (arw w (turnF p k))) ∧ l.length ≤ pre.length ∧ vs = [some (LI l), a, b, c]) [_, _, _, _] rfl ⟨[], _, _, _, rfl, by simp, rfl⟩ ?_ ?_
  · rintro pre x post _ hL ⟨l, a, b, c, hl2, hl3, rfl⟩ R hR
    obtain ⟨rfl, hlt⟩ := enum_pre hL
    have hk : pre.length < p.length := by omega
    have hga : (arw w p)[pre.length]! = arr w p pre.length := by
      have := arw_get hp hk
      rw [List.getElem?_eq_getElem hlt] at this
      rw [getElem!_pos (arw w p) pre.length hlt]
      exact Option.some.inj this
    have ht : arr w p pre.length ∈ arw w p := (mem_arw hp).mpr ⟨_, hk, rfl⟩
    have htr := hrg _ ht
    rw [hga] at hR ⊢
    walk_at "run"
    refine i_ex (addD_lm (by rw [List.length_take, List.length_drop]; omega)) ?_
    walk_at "run"
    refine ⟨_, _, w.n, rfl, by omega, htr.1, fun t h => ?_, fun r hr => ?_⟩
    · have : t ∈ arw w p := (List.mem_filter.mp ((less_mem o hp hk t).mp h)).1
      exact (hrg t this).2
    have hway : (arr w p pre.length).2 ∈ r ↔ Way (but w p pre.length) (arr w p pre.length).1 (arr w p pre.length).2 := by
      rw [hr]
      exact ⟨fun h => h.more fun t => (less_mem o hp hk t).mp, fun h => h.more fun t => (less_mem o hp hk t).mpr⟩
    have hfr := free_iff o hp ap hk
    by_cases e : (arr w p pre.length).2 ∈ r
    · have hf : acB (arw w (turnF p (pre.length : Int))) = false := acB_f.mpr fun c => hfr.mp c (hway.mp e)
      walk_at "run"
      refine hR [_, _, _, _] ⟨_, _, _, _, ?_, ?_, rfl⟩
      · rw [List.length_append, List.length_singleton, filt_take (α := Int) (by omega) (by omega), hf, hl2]; simp
      · rw [List.length_append, List.length_singleton]; omega
    · have hf : acB (arw w (turnF p (pre.length : Int))) = true := acB_t.mpr (hfr.mpr fun c => e (hway.mpr c))
      walk_at "run"
      refine hR [_, _, _, _] ⟨_, _, _, _, ?_, ?_, rfl⟩
      · rw [List.length_append, List.length_singleton, filt_take (α := Int) (by omega) (by omega), hf, hl2]; simp
      · rw [List.length_append, List.length_singleton, List.length_append, List.length_singleton]; omega
  · rintro _ ⟨l, a, b, c, hl2, hl3, rfl⟩
    walk_at "run"
    have : (enumL (arw w p)).length = p.length := by unfold enumL; rw [List.length_zip, ints_len]; omega
    rw [hl2, this, List.take_of_length_le (by rw [ints_len]; omega)]
    exact hP
/-- _law_pieces: slots 0 web:r, 1 found:o, 2 turn:v, 3 a:v, 4 b:v, 5 least:v; modes ['rd']; answer fz -/
def wb_l_pieces : WS :=
  (wSeq (wAsg 1 (wLstRg (wiRg1 (wOp2 ixD (wVar 0) (wC (.int 0))))))
    (wSeq (wFor (wiRg1 (wOp2 ixD (wVar 0) (wC (.int 0)))) (gN 2) (wFor (wiSeq (wOp2 ixD (wVar 0) (wC (.int 1)))) (gT [(gN 3), (gN 4)]) (wSeq (wAsg 5 (wBlt min2D (waCons (wOp2 ixD (wVar 1) (wVar 3)) (waCons (wOp2 ixD (wVar 1) (wVar 4)) waNil))))
    (wSetIx2 1 (wTup (waCons (wVar 5) (waCons (wVar 5) waNil))) (wVar 3) (wVar 4)))))
    (wRet (wVar 1))))
def S_l_pieces : FS := fun ds Post => ∃ (w : Web), ds = [dW w] ∧ w.ok ∧ ∀ l : List Int, (l.length : Int) = w.n → (∀ x, 0 ≤ x → x < w.n → Reach w x (gI l x)) → Post (LI l)
theorem i_setix2 {i : Nat} {a b c : WE} {nx bk ct : En → Prop} {rt : D → En → Prop} {e : En} (k : a e fun y e1 => ∃ d1 d2, y = .tuple [d1, d2] ∧ stIx i b d1 (stIx i c d2 nx) e1) : wSetIx2 i a b c ⟨nx, rt, bk, ct⟩ e := k
theorem i_stix {i : Nat} {l : List Int} {j : Int} {wx : WE} {y : Int} {Q : En → Prop} {e : En} (h0 : e[i]? = some (some (LI l))) (hw : ∀ R : D → En → Prop, R (.int j) e → wx e R) (j0 : 0 ≤ j) (j1 : j < l.length) (k : Q (e.set i (some (LI (l.set j.toNat y))))) : stIx i wx (.int y) Q e := by
  refine ⟨⟨_, h0⟩, hw _ ⟨j, _, j.toNat, rfl, h0, ?_, ?_⟩⟩
  · rw [List.length_map]
    unfold ixN
    rw [if_pos j0, if_pos j1]
  · rw [← List.map_set]; exact k
theorem gI_set {l : List Int} {k j y : Int} (k0 : 0 ≤ k) (j0 : 0 ≤ j) (j1 : j < l.length) : gI (l.set k.toNat y) j = if j = k then y else gI l j := by
  unfold gI
  rw [getElem!_pos (l.set k.toNat y) j.toNat (by rw [List.length_set]; omega), List.getElem_set]
  by_cases e : j = k
  · subst e; simp
  · rw [if_neg (by omega), if_neg e, getElem!_pos l j.toNat (by omega)]
theorem m_l_pieces {rk : RK} : ∀ ds Post, S_l_pieces ds Post → wb_l_pieces { nx := fun _ => Post .none ∧ rk = .fz, rt := fun d _ => Post d } (startE 6 ds) := by
  rintro ds Post ⟨w, rfl, o, hP⟩
  have n1 := o.n1
  have n9 := o.n9
  have h20 := o.len
  unfold wb_l_pieces
  walk_at "start"
  walk_at "run"
  refine for_st [1, 2, 3, 4, 5] (fun pre vs => ∃ (l : List Int) (a b c d : Option D), (l.length : Int) = w.n ∧ (∀ x, 0 ≤ x → x < w.n → Reach w x (gI l x)) ∧ vs = [some (LI l), a, b, c, d]) [_, _, _, _, _] rfl
    ⟨irng 0 w.n, _, _, _, _, by rw [ints_len]; omega, fun x h0 h1 => by rw [gI_irng h0 h1]; exact .refl, rfl⟩ ?_ ?_
  · rintro pre k post _ hL ⟨l, a, b, c, d, hl, hr, rfl⟩ R hR
    walk_at "run"
    refine for_st [1, 3, 4, 5] (fun pre vs => ∃ (l : List Int) (a b c : Option D), (l.length : Int) = w.n ∧ (∀ x, 0 ≤ x → x < w.n → Reach w x (gI l x)) ∧ vs = [some (LI l), a, b, c]) [_, _, _, _] rfl ⟨l, _, _, _, hl, hr, rfl⟩ ?_ ?_
    · rintro pre t post _ hL ⟨l, a, b, c, hl, hr, rfl⟩ R2 hR2
      have ht : t ∈ w.ts := by rw [hL]; simp
      have hrg := o.rg t ht
      walk_at "run"
      refine i_setix2 ?_
      walk_at "run"
      refine ⟨_, _, rfl, i_stix (l := l) (j := t.1) rfl (fun R h => ?_) (by omega) (by omega) (i_stix (j := t.2) rfl (fun R h => ?_) (by omega) (by rw [List.length_set]; omega) ?_)⟩
      · walk_at "run"; exact h
      · walk_at "run"; exact h
      have h12 : Reach w t.1 t.2 := .step .refl (.inl ht)
      have ra := hr t.1 (by omega) (by omega)
      have rb := hr t.2 (by omega) (by omega)
      have hmin : Reach w t.1 (if l[t.2.toNat]! < l[t.1.toNat]! then l[t.2.toNat]! else l[t.1.toNat]!) := by
        split
        · exact h12.trans rb
        · exact ra
      walk_at "env"
      refine hR2 [_, _, _, _] ⟨_, _, _, _, ?_, fun x x0 x1 => ?_, rfl⟩
      · rw [List.length_set, List.length_set]; exact hl
      · rw [gI_set (by omega) x0 (by rw [List.length_set]; omega), gI_set (by omega) x0 (by omega)]
        split
        · next c => rw [c]; exact h12.symm.trans hmin
        · split
          · next c => rw [c]; exact hmin
          · exact hr x x0 x1
    · rintro _ ⟨l, a, b, c, hl, hr, rfl⟩
      walk_at "run"
      exact hR [_, _, _, _, _] ⟨_, _, _, _, _, hl, hr, rfl⟩
  · rintro _ ⟨l, a, b, c, d, hl, hr, rfl⟩
    walk_at "run"
    exact hP l hl hr
/-! so many free ties -/
theorem Reach.moreN {n m : Int} {ks ms : List (Int × Int)} (s : ∀ t ∈ ks, Reach ⟨m, ms⟩ t.1 t.2) {p q : Int} (h : Reach ⟨n, ks⟩ p q) : Reach ⟨m, ms⟩ p q := by
  induction h with
  | refl => exact .refl
  | step _ t ih =>
    rcases t with t | t
    · exact ih.trans (s _ t)
    · exact ih.trans (s _ t).symm
theorem reach_cons {n : Int} {E : List (Int × Int)} {a b x y : Int} (h : Reach ⟨n, (a, b) :: E⟩ x y) : Reach ⟨n, E⟩ x y ∨ ((Reach ⟨n, E⟩ x a ∨ Reach ⟨n, E⟩ x b) ∧ (Reach ⟨n, E⟩ y a ∨ Reach ⟨n, E⟩ y b)) := by
  induction h with
  | refl => exact .inl .refl
  | @step u v _ t ih =>
    have hc : (T ⟨n, E⟩ u v) ∨ (u = a ∧ v = b) ∨ (u = b ∧ v = a) := by
      rcases t with t | t <;> rcases List.mem_cons.mp t with t | t
      · exact .inr (.inl (by simpa using t))
      · exact .inl (.inl t)
      · have : v = a ∧ u = b := by simpa using t
        exact .inr (.inr ⟨this.2, this.1⟩)
      · exact .inl (.inr t)
    rcases hc with t2 | ⟨rfl, rfl⟩ | ⟨rfl, rfl⟩
    · have hvu : Reach ⟨n, E⟩ v u := .step .refl t2.symm
      rcases ih with ih | ⟨i1, i2⟩
      · exact .inl (.step ih t2)
      · exact .inr ⟨i1, i2.imp hvu.trans hvu.trans⟩
    · rcases ih with ih | ⟨i1, i2⟩
      · exact .inr ⟨.inl ih, .inr .refl⟩
      · exact .inr ⟨i1, .inr .refl⟩
    · rcases ih with ih | ⟨i1, i2⟩
      · exact .inr ⟨.inr ih, .inl .refl⟩
      · exact .inr ⟨i1, .inl .refl⟩
theorem filter_one {l : List Int} (nd : l.Nodup) {q : Int → Bool} (h : ∀ x ∈ l, ∀ y ∈ l, q x = true → q y = true → x = y) : l.length ≤ (l.filter fun x => !q x).length + 1 := by
  induction l with
  | nil => simp
  | cons a l ih =>
    have nd2 := List.nodup_cons.mp nd
    have i := ih nd2.2 fun x hx y hy => h x (List.mem_cons_of_mem _ hx) y (List.mem_cons_of_mem _ hy)
    by_cases c : q a = true
    · have : l.filter (fun x => !q x) = l := List.filter_eq_self.mpr fun x hx => by
        cases e : q x with
        | false => rfl
        | true =>
          have := h a List.mem_cons_self x (List.mem_cons_of_mem _ hx) c e
          subst this
          exact absurd hx nd2.1
      simp [c, this]
    · simp [c]; omega
open Classical in
theorem reps (n : Int) (V : List Int) (nd : V.Nodup) : ∀ E : List (Int × Int), ∃ S : List Int, S.Nodup ∧ (∀ x ∈ S, x ∈ V) ∧ V.length ≤ S.length + E.length ∧ ∀ x ∈ S, ∀ y ∈ S, Reach ⟨n, E⟩ x y → x = y
  | [] => ⟨V, nd, fun _ h => h, by simp, fun x _ y _ h => by
      cases h with
      | refl => rfl
      | step _ t => rcases t with t | t <;> simp at t⟩
  | (a, b) :: E => by
    obtain ⟨S, s1, s2, s3, s4⟩ := reps n V nd E
    refine ⟨S.filter fun x => !decide (Reach ⟨n, E⟩ x a), s1.filter _, fun x hx => s2 x (List.mem_filter.mp hx).1, ?_, ?_⟩
    · have := filter_one s1 (q := fun x => decide (Reach ⟨n, E⟩ x a)) fun x hx y hy h1 h2 => by
        simp only [decide_eq_true_eq] at h1 h2
        exact s4 x hx y hy (h1.trans h2.symm)
      rw [List.length_cons]
      omega
    · intro x hx y hy h
      obtain ⟨hx1, hx2⟩ := List.mem_filter.mp hx
      obtain ⟨hy1, hy2⟩ := List.mem_filter.mp hy
      simp only [Bool.not_eq_true', decide_eq_false_iff_not] at hx2 hy2
      rcases reach_cons h with h | ⟨h1 | h1, h2 | h2⟩
      · exact s4 x hx1 y hy1 h
      · exact absurd h1 hx2
      · exact absurd h1 hx2
      · exact absurd h2 hy2
      · exact s4 x hx1 y hy1 (h1.trans h2.symm)
/-- the free ties hold together what the ties hold together -/
theorem free_reach {w : Web} (o : w.ok) {p : List Int} (hp : isP w p) (ap : Acyc (arw w p)) : ∀ t ∈ arw w p, Reach ⟨w.n, (freesF w p).map fun k => arr w p k.toNat⟩ t.1 t.2 := by
  have ap0 := ap
  obtain ⟨h, hh⟩ := ap
  have key : ∀ (m : Nat) (t : Int × Int), t ∈ arw w p → (h t.2 - h t.1).toNat ≤ m → Reach ⟨w.n, (freesF w p).map fun k => arr w p k.toNat⟩ t.1 t.2 := by
    intro m
    induction m with
    | zero => intro t ht hm; have := hh t ht; omega
    | succ m ih =>
      intro t ht hm
      obtain ⟨k, hk, rfl⟩ := (mem_arw hp).mp ht
      by_cases hf : Acyc (arw w (turnF p k))
      · refine .step .refl (.inl (List.mem_map.mpr ⟨(k : Int), List.mem_filter.mpr ⟨mem_ints.mpr ⟨by omega, by omega⟩, acB_t.mpr hf⟩, ?_⟩))
        simp
      · have hw : Way (but w p k) (arr w p k).1 (arr w p k).2 := Classical.byContradiction fun c => hf ((free_iff o hp ap0 hk).mpr c)
        have hs : ∀ t ∈ but w p k, h t.1 < h t.2 := fun t ht => hh t (List.mem_filter.mp ht).1
        have hlt := hh _ ht
        have go : ∀ x, Way (but w p k) (arr w p k).1 x → Way (but w p k) x (arr w p k).2 → Reach ⟨w.n, (freesF w p).map fun k => arr w p k.toNat⟩ (arr w p k).1 x := by
          intro x hx
          induction hx with
          | nil => exact fun _ => .refl
          | @snoc u v hb e ih2 =>
            intro hc
            refine (ih2 ((Way.one e).trans hc)).trans ?_
            obtain ⟨e1, e2⟩ := List.mem_filter.mp e
            have u1 := hb.up hs
            have u2 := hc.up hs
            have u3 := hh _ e1
            simp only [ne_eq, decide_eq_true_eq] at e2 u3
            refine ih (u, v) e1 ?_
            simp only
            rcases u1 with u1 | u1
            · rcases u2 with u2 | u2
              · exact absurd (Prod.ext u1.symm u2) e2
              · rw [u1] at hm hlt; omega
            · rcases u2 with u2 | u2
              · rw [← u2] at hm hlt; omega
              · omega
        exact go _ hw .nil
  exact fun t ht => key _ t ht (Nat.le_refl _)
/-- no fewer free ties than places less the pieces -/
theorem many_free {w : Web} (o : w.ok) {p : List Int} (hp : isP w p) (ap : Acyc (arw w p)) {l : List Int} (hl : (l.length : Int) = w.n) (hr : ∀ x, 0 ≤ x → x < w.n → Reach w x (gI l x)) : w.n - ((dedup l).length : Int) ≤ ((freesF w p).length : Int) := by
  have n1 := o.n1
  have nd0 : (irng 0 w.n).Nodup := (ints_sorted _ _).imp fun h => by omega
  obtain ⟨S, s1, s2, s3, s4⟩ := reps w.n (irng 0 w.n) nd0 ((freesF w p).map fun k => arr w p k.toNat)
  rw [ints_len, List.length_map] at s3
  have hG : ∀ x y, Reach w x y → Reach ⟨w.n, (freesF w p).map fun k => arr w p k.toNat⟩ x y := fun x y h => by
    refine Reach.moreN (n := w.n) (ks := w.ts) (fun t ht => ?_) h
    rcases arw_tie hp ht with c | c
    · exact free_reach o hp ap _ c
    · exact (free_reach o hp ap _ c).symm
  have hinj : ∀ x ∈ S, ∀ y ∈ S, gI l x = gI l y → x = y := fun x hx y hy e => by
    have hx1 := mem_ints.mp (s2 x hx)
    have hy1 := mem_ints.mp (s2 y hy)
    refine s4 x hx y hy (hG x y ((hr x hx1.1 hx1.2).trans ?_))
    rw [e]
    exact (hr y hy1.1 hy1.2).symm
  have hmn : (S.map (gI l)).Nodup := by
    rw [List.nodup_iff_pairwise_ne, List.pairwise_map]
    exact s1.imp_of_mem fun hx hy hne e => hne (hinj _ hx _ hy e)
  have h1 := nodup_le (m := dedup l) hmn fun y hy => by
    obtain ⟨x, hx, rfl⟩ := List.mem_map.mp hy
    have hx1 := mem_ints.mp (s2 x hx)
    rw [mem_dedup]
    unfold gI
    rw [getElem!_pos l x.toNat (by omega)]
    exact List.getElem_mem _
  rw [List.length_map] at h1
  omega
theorem lenSet_i {l : List Int} (h : l.length ≤ 4000) : lenSetD (LI l) = some (.int (dedup l).length) := by
  simp only [lenSetD, intsD_map, Option.bind_some]
  rw [if_pos h]
/-- a comprehension whose items are drawn -/
theorem comp_any {α β : Type} {h : α → D} {en2 : β → D} {xs : List α} {g : WG} {vs : List Nat} {b : WE} {Q : List D → En → Prop} {e : En} (P : β → Prop)
    (hs : ∀ x ∈ xs, ∃ e1, g (h x) e = some e1 ∧ (∀ R : D → En → Prop, (∀ y, P y → R (en2 y) e1) → b e1 R) ∧ wp e1 vs = e)
    (hq : ∀ ys : List β, ys.length = xs.length → (∀ y ∈ ys, P y) → Q (ys.map en2) e) : compL g vs G7.tYes b Q (xs.map h) [] e := by
  refine compL_inv (fun i acc e' => e' = e ∧ ∃ ys : List β, acc = ys.map en2 ∧ ys.length = i ∧ ∀ y ∈ ys, P y) ⟨rfl, [], rfl, rfl, by simp⟩ ?_ ?_
  · rintro i x acc e' hx ⟨rfl, ys, rfl, hl, hy⟩
    rw [List.getElem?_map] at hx
    obtain ⟨a, ha, rfl⟩ := Option.map_eq_some_iff.mp hx
    obtain ⟨e1, h1, h2, h3⟩ := hs a (List.mem_of_getElem? ha)
    refine ⟨e1, h1, fun R hR => ?_⟩
    unfold G7.tYes
    simp only [if_true]
    refine h2 _ fun y py => hR _ _ ⟨h3, ys ++ [y], by simp, by simp [hl], fun z hz => ?_⟩
    rcases List.mem_append.mp hz with hz | hz
    · exact hy z hz
    · simp at hz; subst hz; exact py
  · rintro acc e' ⟨rfl, ys, rfl, hl, hy⟩
    exact hq ys (by rw [hl, List.length_map]) hy
end Lib
end G7

/-! roads judged: k19, k22 -/
namespace G7

local macro_rules | `(tactic| walk_at "op") => `(tactic| first
  | with_reducible exact addD_i _ _ | with_reducible exact subD_i _ _ | with_reducible exact ltD_i _ _ | with_reducible exact leD_i _ _ | with_reducible exact gtD_i _ _ | with_reducible exact geD_i _ _
  | with_reducible exact eqD_i _ _ | with_reducible exact neD_i _ _ | with_reducible exact lenD_lm | with_reducible exact lenD_tm | with_reducible exact lenD_l _ | with_reducible exact lenD_t _ | with_reducible exact dP_0 _ | with_reducible exact dP_1 _
  | with_reducible exact ixD_t0 _ _ | with_reducible exact ixD_t1 _ _ _ | with_reducible exact ixD_t2 _ _ _ _ | with_reducible exact ixD_l0 _ _ | with_reducible exact ixD_l0m | with_reducible exact ixD_t0m | exact eqD_sT | exact eqD_sF | exact neD_sT | exact neD_sF | with_reducible exact ixD_l1 _ _ _
  | with_reducible exact Lib.dW_0 _ | with_reducible exact Lib.dW_1 _ | with_reducible exact tupD_l _ | with_reducible exact tupD_t _ | with_reducible exact lstD_l _ | with_reducible exact lstD_t _ | with_reducible exact max2D_i _ _ | with_reducible exact min2D_i _ _
  | with_reducible exact isTD_i | with_reducible exact tupRevD_m | ((with_reducible refine' indexD_li ?_); with_reducible assumption) | ((with_reducible refine' indexD_xi ?_); with_reducible assumption) | with_reducible exact isTD_s _ _ | with_reducible exact powD_6 | with_reducible exact powD_16 | with_reducible exact powD_18 | with_reducible exact isTD_t _ _ | with_reducible exact isTD_l _ _ | with_reducible exact isTD_b _ _ | with_reducible exact isTD_n _ | with_reducible exact isD_bb _ _ | with_reducible exact isNotD_bb _ _ | with_reducible exact isD_n' _ | with_reducible exact isD_lN _ | with_reducible exact isD_tN _ | with_reducible exact isNotD_lN _ | with_reducible exact isNotD_tN _ | with_reducible exact intD_b _ | with_reducible exact intD_i _ | with_reducible exact negD_i _ | with_reducible exact eqD_b _ _ | with_reducible exact neD_b _ _
  | with_reducible exact neD_l0 _ | with_reducible exact eqD_l0 _ | with_reducible exact eqD_li _ _ | with_reducible exact neD_li _ _ | with_reducible exact eqD_ti _ _ | with_reducible exact neD_ti _ _
  | with_reducible exact eqD_lp _ _ | with_reducible exact neD_lp _ _ | with_reducible exact eqD_tp _ _ | with_reducible exact neD_tp _ _
  | with_reducible exact inD_li _ _ | with_reducible exact inD_ti _ _ | with_reducible exact notInD_li _ _ | with_reducible exact notInD_ti _ _ | with_reducible exact inD_lp _ _ | with_reducible exact inD_tp _ _
  | with_reducible exact notInD_lp _ _ | with_reducible exact notInD_tp _ _ | with_reducible exact inD_lp' _ _ _ | with_reducible exact inD_tp' _ _ _ | with_reducible exact notInD_lp' _ _ _ | with_reducible exact notInD_tp' _ _ _
  | with_reducible exact inD_pair _ _ _ | with_reducible exact sortedAD_i _ | with_reducible exact sortedAD_p _ | with_reducible exact allD_b _ | with_reducible exact anyD_b _
  | ((with_reducible refine' addD_1m ?_); omega) | with_reducible exact Lib.maxAD_0 _ | with_reducible exact Lib.din_dI _ _ | with_reducible exact Lib.dinTD_p _ _ | with_reducible exact Lib.dninTD_p _ _ | with_reducible exact Lib.lenTD_p _ | with_reducible exact Lib.sortTLD_p _ | with_reducible exact Lib.dnin_dI _ _ | ((with_reducible apply Lib.dget_dI); with_reducible assumption) | ((with_reducible refine' repLD_0 ?_ ?_) <;> omega) | ((with_reducible refine' slT_tom ?_); omega) | ((with_reducible refine' slT_frm ?_); omega) | ((with_reducible refine' slL_tom ?_); omega) | ((with_reducible refine' slL_frm ?_); omega) | ((with_reducible refine' modD_i ?_); omega) | ((with_reducible refine' fdivD_i ?_ ?_) <;> omega) | ((with_reducible refine' mulID_i (okMul_l ?_ ?_)) <;> omega) | ((with_reducible refine' mulID_i (okMul_r ?_ ?_)) <;> omega)
  | ((with_reducible refine' ixD_lm ?_ ?_) <;> omega) | ((with_reducible refine' ixD_tm ?_ ?_) <;> omega) | with_reducible assumption)
local macro_rules | `(tactic| walk_at "env") => `(tactic| simp only [List.set_cons_zero, List.set_cons_succ, upd, wp_cons, wp_nil, back_cons, back_nil, List.getElem?_cons_zero, List.getElem?_cons_succ, Option.getD_some, toF])
local macro_rules | `(tactic| walk_at "cond") => `(tactic| first | assumption | omega | exact rfl | (focus (simp; done)))
local macro_rules | `(tactic| walk_at "mut") => `(tactic| first | ((with_reducible refine' popAtF_m ?_ ?_) <;> omega) | ((with_reducible refine' appendF_m ?_); first | omega | (simp only [List.length_append, List.length_map, List.length_cons, List.length_nil]; omega)) | ((with_reducible refine' removeF_i ?_); (first | assumption | (simp; done))) | ((with_reducible refine' extendF_m ?_); first | omega | (simp only [List.length_append, List.length_map, List.length_cons, List.length_nil]; omega)))
local macro_rules | `(tactic| walk_at "s") => `(tactic| first
  | with_reducible refine' i_seq ?_ | ((with_reducible apply i_frz); (exact rfl); (first | exact nt_l | exact nt_d)) | ((with_reducible apply i_asV); (exact rfl)) | ((with_reducible apply i_asO); (exact rfl); (first | exact nt_l | exact nt_d)) | with_reducible refine' i_op2 ?_ | with_reducible refine' i_acons ?_ | with_reducible refine' i_anil ?_ | ((with_reducible apply i_var); exact rfl) | with_reducible refine' i_c ?_
  | with_reducible refine' i_asg ?_ | with_reducible refine' i_par ?_ | with_reducible refine' i_par2 ?_ | with_reducible refine' i_call ?_ | with_reducible refine' i_blt ?_ | with_reducible refine' i_op1 ?_ | with_reducible refine' i_tup ?_ | with_reducible refine' i_list ?_
  | ((with_reducible apply i_ex); walk_at "op") | ((with_reducible apply i_exk); walk_at "op")
  | with_reducible refine' i_val ?_ | with_reducible refine' i_exb ?_ | with_reducible refine' i_if ?_ | with_reducible refine' i_ret ?_ | with_reducible refine' i_nil ?_
  | with_reducible refine' i_T ?_ | with_reducible refine' i_F ?_ | with_reducible refine' i_tand ?_ | with_reducible refine' i_tor ?_ | with_reducible refine' i_tnot ?_ | with_reducible refine' i_yes ?_
  | with_reducible refine' i_and ?_ | with_reducible refine' i_or ?_ | with_reducible refine' i_not ?_ | with_reducible refine' i_ife ?_ | with_reducible refine' i_chain ?_
  | with_reducible refine' i_comp ?_ | with_reducible refine' i_iseq ?_ | with_reducible refine' i_irg1 ?_ | with_reducible refine' i_irg2 ?_ | with_reducible refine' i_izip ?_ | with_reducible refine' i_zipT ?_ | with_reducible refine' i_zipL ?_ | with_reducible refine' i_ienum ?_ | ((with_reducible apply i_enum); exact rfl) | with_reducible refine' i_irev ?_
  | with_reducible refine' i_for ?_ | with_reducible refine' i_lstrg ?_ | with_reducible refine' i_asgG ?_ | with_reducible refine' i_asgP ?_ | with_reducible refine' i_expr ?_ | with_reducible refine' i_retN ?_ | with_reducible refine' i_brk ?_ | with_reducible refine' i_cnt ?_
  | with_reducible refine' i_on ?_ | with_reducible refine' i_os ?_ | with_reducible refine' i_sl ?_ | ((with_reducible apply i_exl); exact rfl)
  | ((with_reducible refine' i_rg1 ?_ ?_); (constructor <;> omega)) | ((with_reducible refine' i_rg2 ?_ ?_); (refine ⟨?_, ?_, ?_, ?_⟩ <;> omega))
  | with_reducible refine' i_exi ?_
  | (with_reducible refine' i_len (Nat.le_of_ble_eq_true rfl) ?_)
  | ((with_reducible apply i_g); exact rfl) | ((with_reducible refine' i_plix ?_ ?_); exact rfl) | with_reducible refine' i_plset ?_ | with_reducible refine' i_np ?_
  | with_reducible refine' i_idxL ?_ | with_reducible refine' i_idl ?_ | with_reducible refine' i_idx ?_
  | ((with_reducible apply i_mut1); (exact rfl); walk_at "mut")
  | ((with_reducible apply Lib.i_keysT); exact rfl) | (with_reducible refine' Lib.i_dputT ?_) | ((with_reducible apply Lib.i_dputT0); exact rfl) | ((with_reducible apply Lib.i_dputT1); (exact rfl); omega)
  | (with_reducible refine' Lib.i_dput ?_) | ((with_reducible apply Lib.i_dput0); exact rfl) | ((with_reducible apply Lib.i_dput1); (exact rfl); omega)
  | ((with_reducible refine' i_dT ?_ ?_); walk_at "cond") | ((with_reducible refine' i_dF ?_ ?_); walk_at "cond") | ((with_reducible refine' i_ndT ?_ ?_); walk_at "cond") | ((with_reducible refine' i_ndF ?_ ?_); walk_at "cond")
  | ((with_reducible refine' i_bT ?_ ?_); (first | with_reducible assumption | exact rfl)) | ((with_reducible refine' i_bF ?_ ?_); (first | with_reducible assumption | exact rfl))
  | ((with_reducible apply i_setixm); (exact rfl); omega; omega) | (with_reducible refine' i_setix ?_) | ((with_reducible apply i_setix0); exact rfl) | ((with_reducible apply i_mut); exact rfl))
local macro_rules | `(tactic| walk_at "run") => `(tactic| (repeat (walk_at "s")); try walk_at "env")
local macro_rules | `(tactic| walk_at "start") => `(tactic| simp only [startE, List.map_cons, List.map_nil, List.length_cons, List.length_nil, Nat.reduceAdd, Nat.reduceSub, Nat.zero_add, List.replicate_succ, List.replicate_zero, List.cons_append, List.nil_append])
local macro_rules | `(tactic| walk_at "len") => `(tactic| first | omega | (simp only [List.length_map, List.length_append, List.length_cons, List.length_nil]; omega) | (refine Nat.le_trans ?_ (Nat.le_refl _); have := List.length_filter_le; simp_all; done))
local macro_rules | `(tactic| walk_at "opl") => `(tactic| first | ((with_reducible refine' addD_lm ?_); walk_at "len") | ((with_reducible refine' addD_tm ?_); walk_at "len") | ((with_reducible refine' addLD_lm ?_); walk_at "len"))
/-- a comprehension: of what is walked itself, of ints, pairs, truths -/
local macro_rules | `(tactic| walk_at "comp") => `(tactic| first
  | (refine comp_fil ?_ (fun x hx => ?_) ?_; rotate_left 1; focus ((try have hx1 := Fact.use (by assumption) hx); (try have hx2 := mem_ints.mp hx); (try dsimp only at hx1); refine ⟨_, rfl, fun R hR => ?_, fun hp R hR => ?_, rfl⟩ <;> (repeat (walk_at "s")) <;> exact hR))
  | (refine comp_all (en2 := PySem.PyData.int) ?_ (fun x hx => ?_) ?_; rotate_left 1; focus ((try have hx1 := Fact.use (by assumption) hx); (try have hx2 := mem_ints.mp hx); (try dsimp only at hx1); refine ⟨_, rfl, fun R hR => ?_, rfl⟩ <;> (repeat (walk_at "s")) <;> exact hR))
  | (refine comp_all (en2 := PySem.PyData.bool) ?_ (fun x hx => ?_) ?_; rotate_left 1; focus ((try have hx1 := Fact.use (by assumption) hx); (try have hx2 := mem_ints.mp hx); (try dsimp only at hx1); refine ⟨_, rfl, fun R hR => ?_, rfl⟩ <;> (repeat (walk_at "s")) <;> exact hR))
  | (refine comp_all (en2 := dP) ?_ (fun x hx => ?_) ?_; rotate_left 1; focus ((try have hx1 := Fact.use (by assumption) hx); (try have hx2 := mem_ints.mp hx); (try dsimp only at hx1); refine ⟨_, rfl, fun R hR => ?_, rfl⟩ <;> (repeat (walk_at "s")) <;> exact hR))
  | (refine comp_el (en2 := PySem.PyData.int) ?_ ?_ (fun x hx => ?_) ?_; rotate_left 2; focus ((try have hx1 := Fact.use (by assumption) hx); (try have hx2 := mem_ints.mp hx); (try dsimp only at hx1); refine ⟨_, rfl, fun R hR => ?_, fun hp R hR => ?_, rfl⟩ <;> (repeat (walk_at "s")) <;> exact hR))
  | (refine comp_el (en2 := dP) ?_ ?_ (fun x hx => ?_) ?_; rotate_left 2; focus ((try have hx1 := Fact.use (by assumption) hx); (try have hx2 := mem_ints.mp hx); (try dsimp only at hx1); refine ⟨_, rfl, fun R hR => ?_, fun hp R hR => ?_, rfl⟩ <;> (repeat (walk_at "s")) <;> exact hR))
  | (refine comp_el (en2 := PySem.PyData.bool) ?_ ?_ (fun x hx => ?_) ?_; rotate_left 2; focus ((try have hx1 := Fact.use (by assumption) hx); (try have hx2 := mem_ints.mp hx); (try dsimp only at hx1); refine ⟨_, rfl, fun R hR => ?_, fun hp R hR => ?_, rfl⟩ <;> (repeat (walk_at "s")) <;> exact hR))
  | (refine comp_allD (en2 := PySem.PyData.int) ?_ (fun x hx => ?_) ?_; rotate_left 1; focus ((try have hx1 := Fact.use (by assumption) hx); (try dsimp only at hx1); refine ⟨_, rfl, fun R hR => ?_, rfl⟩ <;> (repeat (walk_at "s")) <;> exact hR))
  | (refine comp_allD (en2 := PySem.PyData.bool) ?_ (fun x hx => ?_) ?_; rotate_left 1; focus ((try have hx1 := Fact.use (by assumption) hx); (try dsimp only at hx1); refine ⟨_, rfl, fun R hR => ?_, rfl⟩ <;> (repeat (walk_at "s")) <;> exact hR)))
local macro_rules | `(tactic| walk_at "runc") => `(tactic| (repeat (first | walk_at "s" | walk_at "comp")); try walk_at "env")
namespace Lib
open PySem
abbrev LL (rs : List (List Int)) : D := .list (rs.map LI)
/-- road_right: slots 0 web:r, 1 one:v, 2 other:r, 3 row:r, 4 here:v, 5 k:v; modes ['rd', 'fz', 'rd', 'rd']; answer fz -/
def wb_road_right (S_is_free : FS) (S_turned : FS) : WS :=
  (wSeq (wAsg 4 (wVar 1))
    (wSeq (wFor (wiSeq (wVar 3)) (gN 5) (wSeq (wIf (tOr (tVal (wOp2 ltD (wVar 5) (wC (.int 0)))) (tOr (tVal (wOp2 geD (wVar 5) (wBlt lenD (waCons (wVar 1) waNil)))) (tNot (tVal (wCall S_is_free (waCons (wVar 0) (waCons (wVar 4) (waCons (wVar 5) waNil)))))))) (wRet (wC (.bool false))) wNil)
    (wAsg 4 (wCall S_turned (waCons (wVar 0) (waCons (wVar 4) (waCons (wVar 5) waNil)))))))
    (wRet (wOp2 eqD (wVar 4) (wVar 2)))))
def S_road_right : FS := fun ds Post => ∃ w one other x row, ds = [dW w, TI one, TI other, x] ∧ seqD x = some (row.map .int) ∧ w.ok ∧ isP w one ∧ Post (.bool (decide (roadGo w one row = some other)))
theorem m_road_right {rk : RK} : ∀ ds Post, S_road_right ds Post → wb_road_right S_is_free S_turned { nx := fun _ => Post .none ∧ rk = .fz, rt := fun d _ => Post d } (startE 6 ds) := by
  rintro ds Post ⟨w, one, other, x, row, rfl, hx, o, hp, hP⟩
  have hl := hp.1
  have h20 := o.len
  unfold wb_road_right
  walk_at "start"
  walk_at "run"
  refine ⟨_, hx, ?_⟩
  refine for_st [4, 5] (fun pre vs => ∃ here a, isP w here ∧ (∀ post, row = pre ++ post → roadGo w one row = roadGo w here post) ∧ vs = [some (TI here), a]) [_, _] rfl ⟨one, _, hp, fun post h => by rw [h]; rfl, rfl⟩ ?_ ?_
  · rintro pre k post _ hL ⟨here, a, hh, hg, rfl⟩ R hR
    have hg := hg _ hL
    have hhl := hh.1
    by_cases hk : 0 ≤ k ∧ k < (one.length : Int)
    · walk_at "run"
      refine ⟨w, here, k, rfl, o, hh, by omega, by omega, ?_⟩
      cases e : acB (arw w (turnF here k)) with
      | false =>
        walk_at "run"
        have : roadGo w one row = none := by rw [hg]; unfold roadGo; rw [if_neg (by rw [e]; simp)]
        rw [this] at hP
        simpa using hP
      | true =>
        walk_at "run"
        refine ⟨w, here, k, rfl, by omega, by omega, by omega, ?_⟩
        walk_at "run"
        refine hR [_, _] ⟨_, _, turn_isP hh k, fun ps h => ?_, rfl⟩
        have : ps = post := by
          rw [hL, List.append_assoc] at h
          simpa using (List.append_cancel_left h).symm
        rw [hg, this]
        conv => lhs; unfold roadGo
        rw [if_pos ⟨⟨hk.1, by omega⟩, e⟩]
    · have : roadGo w one row = none := by rw [hg]; unfold roadGo; rw [if_neg fun c => hk ⟨c.1.1, by omega⟩]
      rw [this] at hP
      have hP : Post (.bool false) := by simpa using hP
      by_cases h0 : 0 ≤ k
      · have h1 : ¬ k < (one.length : Int) := fun c => hk ⟨h0, c⟩
        walk_at "run"
        exact hP
      · walk_at "run"
        exact hP
  · rintro _ ⟨here, a, hh, hg, rfl⟩
    walk_at "run"
    have := hg [] (by simp)
    rw [this] at hP
    simpa [roadGo] using hP
/-! roads on -/
theorem roadGo_app {w : Web} : ∀ {a b : List Int} {p q : List Int}, roadGo w p a = some q → roadGo w p (a ++ b) = roadGo w q b
  | [], b, p, q, h => by unfold roadGo at h; cases h; rfl
  | k :: a, b, p, q, h => by
    unfold roadGo at h
    split at h
    · next c =>
      rw [List.cons_append]
      conv => lhs; unfold roadGo
      rw [if_pos c]
      exact roadGo_app h
    · cases h
theorem roadGo_isP {w : Web} : ∀ {a : List Int} {p q : List Int}, isP w p → Acyc (arw w p) → roadGo w p a = some q → isP w q ∧ Acyc (arw w q)
  | [], p, q, hp, ap, h => by unfold roadGo at h; cases h; exact ⟨hp, ap⟩
  | k :: a, p, q, hp, ap, h => by
    unfold roadGo at h
    split at h
    · next c => exact roadGo_isP (turn_isP hp k) (acB_t.mp c.2) h
    · cases h
theorem roadGo_one {w : Web} {p : List Int} {k : Int} (h0 : 0 ≤ k) (h1 : k < (p.length : Int)) (a : Acyc (arw w (turnF p k))) : roadGo w p [k] = some (turnF p k) := by
  unfold roadGo
  rw [if_pos ⟨⟨h0, h1⟩, acB_t.mpr a⟩]
  rfl
theorem turn_turn {w : Web} {p : List Int} (hp : isP w p) {k : Int} (h0 : 0 ≤ k) (h1 : k < (p.length : Int)) : turnF (turnF p k) k = p := by
  unfold turnF
  rw [gI_set h0 h0 h1, if_pos rfl, List.set_set]
  refine List.ext_getElem (by simp) fun i hi hj => ?_
  rw [List.getElem_set]
  split
  · next c =>
    subst c
    have e : gI p k = p[k.toNat] := by unfold gI; rw [getElem!_pos p k.toNat (by omega)]
    rw [e]; omega
  · rfl
theorem roadGo_back {w : Web} {p : List Int} (hp : isP w p) (ap : Acyc (arw w p)) {k : Int} (h0 : 0 ≤ k) (h1 : k < (p.length : Int)) (a : Acyc (arw w (turnF p k))) : roadGo w p [k, k] = some p := by
  have e := roadGo_app (b := [k]) (roadGo_one h0 h1 a)
  rw [List.singleton_append] at e
  rw [e, roadGo_one h0 (by rw [turn_len]; exact h1) (by rw [turn_turn hp h0 h1]; exact ap), turn_turn hp h0 h1]
theorem mem_frees {w : Web} {p : List Int} {k : Int} : k ∈ freesF w p ↔ (0 ≤ k ∧ k < (p.length : Int)) ∧ Acyc (arw w (turnF p k)) := by
  unfold freesF
  rw [List.mem_filter, mem_ints, acB_t]
def oppF (p : List Int) : List Int := p.map fun x => 1 - x
theorem opp_isP {w : Web} {p : List Int} (h : isP w p) : isP w (oppF p) := by
  refine ⟨by unfold oppF; rw [List.length_map]; exact h.1, fun x hx => ?_⟩
  obtain ⟨y, hy, rfl⟩ := List.mem_map.mp hx
  have := h.2 y hy
  omega
theorem opp_arw {w : Web} {p : List Int} (h : isP w p) : arw w (oppF p) = (arw w p).map fun t => (t.2, t.1) := by
  refine List.ext_getElem ?_ fun i hi hj => ?_
  · rw [List.length_map, arw_len h, arw_len (opp_isP h)]
  · have hi2 : i < p.length := by rw [arw_len (opp_isP h)] at hi; rw [h.1]; exact hi
    have hx := h.2 _ (List.getElem_mem hi2)
    simp only [arw, oppF, List.getElem_zipWith, List.getElem_map]
    rcases hx with e | e <;> rw [e] <;> simp
theorem opp_acyc {w : Web} {p : List Int} (h : isP w p) (a : Acyc (arw w p)) : Acyc (arw w (oppF p)) := by
  obtain ⟨r, hr⟩ := a
  rw [opp_arw h]
  refine ⟨fun x => - r x, fun t ht => ?_⟩
  obtain ⟨s, hs, rfl⟩ := List.mem_map.mp ht
  have := hr s hs
  simp only
  omega
theorem frees_ne {w : Web} (o : w.ok) {p : List Int} (h : isP w p) (a : Acyc (arw w p)) (ne : w.ts ≠ []) : 0 < (freesF w p).length := by
  have hl : 0 < p.length := by rw [h.1]; exact List.length_pos_iff.mpr ne
  have : p ≠ oppF p := fun c => by
    have e : p[0] = (oppF p)[0]'(by unfold oppF; rw [List.length_map]; exact hl) := by congr 1
    simp only [oppF, List.getElem_map] at e
    omega
  obtain ⟨k, hk, hf⟩ := some_free o h (opp_isP h) a (opp_acyc h a) this
  exact List.length_pos_of_mem (mem_frees.mpr ⟨(mem_unl.mp hk).1, hf⟩)
/-- _law_made_road: slots 0 pool:p, 1 web:r, 2 one:v, 3 other:r, 4 row:o, 5 here:v, 6 some:v, 7 k:v, 8 back:v; modes ['pl', 'rd', 'fz', 'rd']; answer fz -/
def wb_l_made_road (S_l_free : FS) (S_l_next : FS) (S_l_turned : FS) : WS :=
  (wSeq (wAsg 4 (wList waNil))
    (wSeq (wAsg 5 (wVar 2))
    (wSeq (wWhile (tVal (wOp2 neD (wVar 5) (wVar 3))) (wSeq (wAsg 6 (wComp (wiSeq (wCall S_l_free (waCons (wVar 1) (waCons (wVar 5) waNil)))) (gN 7) [7] (tVal (wOp2 neD (wOp2 ixD (wVar 5) (wVar 7)) (wOp2 ixD (wVar 3) (wVar 7)))) (wVar 7)))
    (wSeq (wAsg 7 (wOp2 ixD (wVar 6) (wCall S_l_next (waCons (wVar 0) (waCons (wBlt lenD (waCons (wVar 6) waNil)) waNil)))))
    (wSeq (wIf (tAnd (tVal (wOp2 ltD (wBlt lenD (waCons (wVar 4) waNil)) (wC (.int 5)))) (tVal (wOp2 eqD (wCall S_l_next (waCons (wVar 0) (waCons (wC (.int 4)) waNil))) (wC (.int 0))))) (wSeq (wAsg 6 (wCall S_l_free (waCons (wVar 1) (waCons (wVar 5) waNil))))
    (wSeq (wAsg 8 (wOp2 ixD (wVar 6) (wCall S_l_next (waCons (wVar 0) (waCons (wBlt lenD (waCons (wVar 6) waNil)) waNil)))))
    (wExpr (wMut 4 extendF (waCons (wList (waCons (wVar 8) (waCons (wVar 8) waNil))) waNil))))) wNil)
    (wSeq (wExpr (wMut 4 appendF (waCons (wVar 7) waNil)))
    (wAsg 5 (wCall S_l_turned (waCons (wVar 5) (waCons (wVar 7) waNil)))))))))
    (wRet (wVar 4)))))
def S_l_made_road : FS := fun ds Post => ∃ w p q, ds = [.none, dW w, TI p, TI q] ∧ w.ok ∧ isP w p ∧ isP w q ∧ Acyc (arw w p) ∧ Acyc (arw w q) ∧ ∀ row : List Int, roadGo w p row = some q → row.length ≤ 40 → Post (LI row)
theorem m_l_made_road {rk : RK} : ∀ ds Post, S_l_made_road ds Post → wb_l_made_road S_l_free S_l_next S_l_turned { nx := fun _ => Post .none ∧ rk = .fz, rt := fun d _ => Post d } (startE 9 ds) := by
  rintro ds Post ⟨w, p, q, rfl, o, hp, hq, ap, aq, hP⟩
  have h20 := o.len
  have hpl := hp.1
  have hql := hq.1
  unfold wb_l_made_road
  walk_at "start"
  walk_at "run"
  refine while_st [5, 4, 6, 7, 8] (fun vs => ∃ (here row : List Int) (a b c : Option D), isP w here ∧ Acyc (arw w here) ∧ roadGo w p row = some here ∧ row.length + (unl here q).length + 2 * (5 - row.length) ≤ 30 ∧ vs = [some (TI here), some (LI row), a, b, c])
    (fun vs => match vs with | some (.tuple l) :: _ => (unl (l.map fun d => match d with | .int i => i | _ => 0) q).length | _ => 0) [_, _, _, _, _] rfl ⟨p, [], _, _, _, hp, ap, rfl, ?_, rfl⟩ ?_
  · have := List.length_filter_le (fun k => decide (gI p k ≠ gI q k)) (irng 0 p.length)
    rw [ints_len] at this
    simp only [unl, List.length_nil]
    omega
  rintro _ ⟨here, row, a, b, c, hh, ah, hg, hb, rfl⟩ R hR
  have hhl := hh.1
  by_cases e : here = q
  · walk_at "run"
    subst e
    exact hP row hg (by omega)
  · obtain ⟨k0, hk0, hf0⟩ := some_free o hh hq ah aq e
    walk_at "run"
    refine ⟨w, here, rfl, o, hh, ah, ?_⟩
    walk_at "run"
    refine comp_fil (fun k => decide (gI here k ≠ gI q k)) (fun k hk => ?_) ?_
    · obtain ⟨⟨h0, h1⟩, _⟩ := mem_frees.mp hk
      refine ⟨_, rfl, fun R hR => ?_, fun _ R hR => ?_, rfl⟩
      · walk_at "run"
        simpa [gI] using hR
      · walk_at "run"
        exact hR
    have hpos : 0 < ((freesF w here).filter fun k => decide (gI here k ≠ gI q k)).length := List.length_pos_of_mem (List.mem_filter.mpr ⟨mem_frees.mpr ⟨(mem_unl.mp hk0).1, hf0⟩, by simpa using (mem_unl.mp hk0).2⟩)
    have hle : ((freesF w here).filter fun k => decide (gI here k ≠ gI q k)).length ≤ 20 := by
      have h1 := List.length_filter_le (fun k => decide (gI here k ≠ gI q k)) (freesF w here)
      have h2 := List.length_filter_le (fun k => acB (arw w (turnF here k))) (irng 0 here.length)
      rw [ints_len] at h2
      unfold freesF at h1 ⊢
      omega
    generalize hfl : (freesF w here).filter (fun k => decide (gI here k ≠ gI q k)) = fl at *
    walk_at "run"
    refine next_i (by omega) (by omega) fun r r0 r1 => ?_
    have hr : fl[r.toNat]! ∈ fl := by rw [getElem!_pos fl r.toNat (by omega)]; exact List.getElem_mem _
    have hkm := hr
    obtain ⟨k, hkd⟩ : ∃ k, fl[r.toNat]! = k := ⟨_, rfl⟩
    rw [hkd] at hkm
    rw [← hfl, List.mem_filter, mem_frees] at hkm
    obtain ⟨⟨⟨g0, g1⟩, hfk⟩, hne⟩ := hkm
    have hku : k ∈ unl here q := mem_unl.mpr ⟨⟨g0, g1⟩, by simpa using hne⟩
    have hpm := (unl_perm hh hq hku).length_eq
    rw [List.length_cons] at hpm
    by_cases e5 : row.length < 5
    · walk_at "run"
      refine next_i (by omega) (by omega) fun r' r0' r1' => ?_
      by_cases e6 : r' = 0
      · walk_at "run"
        refine ⟨w, here, rfl, o, hh, ah, ?_⟩
        have hfp : 0 < (freesF w here).length := List.length_pos_of_mem (mem_frees.mpr ⟨(mem_unl.mp hk0).1, hf0⟩)
        have hfle : (freesF w here).length ≤ 20 := by
          have h2 := List.length_filter_le (fun k => acB (arw w (turnF here k))) (irng 0 here.length)
          rw [ints_len] at h2
          unfold freesF
          omega
        walk_at "run"
        refine next_i (by omega) (by omega) fun r2 r20 r21 => ?_
        have hr2 : (freesF w here)[r2.toNat]! ∈ freesF w here := by rw [getElem!_pos (freesF w here) r2.toNat (by omega)]; exact List.getElem_mem _
        obtain ⟨bk, hbk⟩ : ∃ k, (freesF w here)[r2.toNat]! = k := ⟨_, rfl⟩
        walk_at "run"
        rw [hbk] at hr2 ⊢
        obtain ⟨⟨b0, b1⟩, hfb⟩ := mem_frees.mp hr2
        refine i_mut1 rfl (extendF_m (f := PyData.int) (b := [bk, bk]) (by simp only [List.length_cons, List.length_nil]; omega)) ?_
        walk_at "run"
        rw [hkd]
        refine ⟨here, k, rfl, by omega, by omega, by omega, ?_⟩
        walk_at "run"
        refine hR [_, _, _, _, _] ⟨_, _, _, _, _, turn_isP hh k, hfk, ?_, ?_, rfl⟩ ?_
        · rw [List.append_assoc, roadGo_app hg, roadGo_app (roadGo_back hh ah b0 b1 hfb)]
          exact roadGo_one g0 g1 hfk
        · simp only [List.length_append, List.length_cons, List.length_nil]
          omega
        · simp only [List.map_map, Function.comp_def, List.map_id']
          omega
      · walk_at "run"
        rw [hkd]
        refine ⟨here, k, rfl, by omega, by omega, by omega, ?_⟩
        walk_at "run"
        refine hR [_, _, _, _, _] ⟨_, _, _, _, _, turn_isP hh k, hfk, ?_, ?_, rfl⟩ ?_
        · rw [roadGo_app hg]
          exact roadGo_one g0 g1 hfk
        · simp only [List.length_append, List.length_cons, List.length_nil]
          omega
        · simp only [List.map_map, Function.comp_def, List.map_id']
          omega
    · walk_at "run"
      rw [hkd]
      refine ⟨here, k, rfl, by omega, by omega, by omega, ?_⟩
      walk_at "run"
      refine hR [_, _, _, _, _] ⟨_, _, _, _, _, turn_isP hh k, hfk, ?_, ?_, rfl⟩ ?_
      · rw [roadGo_app hg]
        exact roadGo_one g0 g1 hfk
      · simp only [List.length_append, List.length_cons, List.length_nil]
        omega
      · simp only [List.map_map, Function.comp_def, List.map_id']
        omega
end Lib
end G7

/-! rows put otherwise: k19, k27 -/
namespace G7

local macro_rules | `(tactic| walk_at "op") => `(tactic| first
  | with_reducible exact addD_i _ _ | with_reducible exact subD_i _ _ | with_reducible exact ltD_i _ _ | with_reducible exact leD_i _ _ | with_reducible exact gtD_i _ _ | with_reducible exact geD_i _ _
  | with_reducible exact eqD_i _ _ | with_reducible exact neD_i _ _ | with_reducible exact lenD_lm | with_reducible exact lenD_tm | with_reducible exact lenD_l _ | with_reducible exact lenD_t _ | with_reducible exact dP_0 _ | with_reducible exact dP_1 _
  | with_reducible exact ixD_t0 _ _ | with_reducible exact ixD_t1 _ _ _ | with_reducible exact ixD_t2 _ _ _ _ | with_reducible exact ixD_l0 _ _ | with_reducible exact ixD_l0m | with_reducible exact ixD_t0m | exact eqD_sT | exact eqD_sF | exact neD_sT | exact neD_sF | with_reducible exact ixD_l1 _ _ _
  | with_reducible exact Lib.dW_0 _ | with_reducible exact Lib.dW_1 _ | with_reducible exact tupD_l _ | with_reducible exact tupD_t _ | with_reducible exact lstD_l _ | with_reducible exact lstD_t _ | with_reducible exact max2D_i _ _ | with_reducible exact min2D_i _ _
  | with_reducible exact isTD_i | with_reducible exact tupRevD_m | ((with_reducible refine' indexD_li ?_); with_reducible assumption) | ((with_reducible refine' indexD_xi ?_); with_reducible assumption) | with_reducible exact isTD_s _ _ | with_reducible exact powD_6 | with_reducible exact powD_16 | with_reducible exact powD_18 | with_reducible exact isTD_t _ _ | with_reducible exact isTD_l _ _ | with_reducible exact isTD_b _ _ | with_reducible exact isTD_n _ | with_reducible exact isD_bb _ _ | with_reducible exact isNotD_bb _ _ | with_reducible exact isD_n' _ | with_reducible exact isD_lN _ | with_reducible exact isD_tN _ | with_reducible exact isNotD_lN _ | with_reducible exact isNotD_tN _ | with_reducible exact intD_b _ | with_reducible exact intD_i _ | with_reducible exact negD_i _ | with_reducible exact eqD_b _ _ | with_reducible exact neD_b _ _
  | with_reducible exact neD_l0 _ | with_reducible exact eqD_l0 _ | with_reducible exact eqD_li _ _ | with_reducible exact neD_li _ _ | with_reducible exact eqD_ti _ _ | with_reducible exact neD_ti _ _
  | with_reducible exact eqD_lp _ _ | with_reducible exact neD_lp _ _ | with_reducible exact eqD_tp _ _ | with_reducible exact neD_tp _ _
  | with_reducible exact inD_li _ _ | with_reducible exact inD_ti _ _ | with_reducible exact notInD_li _ _ | with_reducible exact notInD_ti _ _ | with_reducible exact inD_lp _ _ | with_reducible exact inD_tp _ _
  | with_reducible exact notInD_lp _ _ | with_reducible exact notInD_tp _ _ | with_reducible exact inD_lp' _ _ _ | with_reducible exact inD_tp' _ _ _ | with_reducible exact notInD_lp' _ _ _ | with_reducible exact notInD_tp' _ _ _
  | with_reducible exact inD_pair _ _ _ | with_reducible exact sortedAD_i _ | with_reducible exact sortedAD_p _ | with_reducible exact allD_b _ | with_reducible exact anyD_b _
  | ((with_reducible refine' addD_1m ?_); omega) | with_reducible exact Lib.maxAD_0 _ | with_reducible exact Lib.din_dI _ _ | with_reducible exact Lib.dinTD_p _ _ | with_reducible exact Lib.dninTD_p _ _ | with_reducible exact Lib.lenTD_p _ | with_reducible exact Lib.sortTLD_p _ | with_reducible exact Lib.dnin_dI _ _ | ((with_reducible apply Lib.dget_dI); with_reducible assumption) | ((with_reducible refine' repLD_0 ?_ ?_) <;> omega) | ((with_reducible refine' slT_tom ?_); omega) | ((with_reducible refine' slT_frm ?_); omega) | ((with_reducible refine' slL_tom ?_); omega) | ((with_reducible refine' slL_frm ?_); omega) | ((with_reducible refine' modD_i ?_); omega) | ((with_reducible refine' fdivD_i ?_ ?_) <;> omega) | ((with_reducible refine' mulID_i (okMul_l ?_ ?_)) <;> omega) | ((with_reducible refine' mulID_i (okMul_r ?_ ?_)) <;> omega)
  | ((with_reducible refine' ixD_lm ?_ ?_) <;> omega) | ((with_reducible refine' ixD_tm ?_ ?_) <;> omega) | with_reducible assumption)
local macro_rules | `(tactic| walk_at "env") => `(tactic| simp only [List.set_cons_zero, List.set_cons_succ, upd, wp_cons, wp_nil, back_cons, back_nil, List.getElem?_cons_zero, List.getElem?_cons_succ, Option.getD_some, toF])
local macro_rules | `(tactic| walk_at "cond") => `(tactic| first | assumption | omega | exact rfl | (focus (simp; done)))
local macro_rules | `(tactic| walk_at "mut") => `(tactic| first | ((with_reducible refine' popAtF_m ?_ ?_) <;> omega) | ((with_reducible refine' appendF_m ?_); first | omega | (simp only [List.length_append, List.length_map, List.length_cons, List.length_nil]; omega)) | ((with_reducible refine' removeF_i ?_); (first | assumption | (simp; done))) | ((with_reducible refine' extendF_m ?_); first | omega | (simp only [List.length_append, List.length_map, List.length_cons, List.length_nil]; omega)))
local macro_rules | `(tactic| walk_at "s") => `(tactic| first
  | with_reducible refine' i_seq ?_ | ((with_reducible apply i_frz); (exact rfl); (first | exact nt_l | exact nt_d)) | ((with_reducible apply i_asV); (exact rfl)) | ((with_reducible apply i_asO); (exact rfl); (first | exact nt_l | exact nt_d)) | with_reducible refine' i_op2 ?_ | with_reducible refine' i_acons ?_ | with_reducible refine' i_anil ?_ | ((with_reducible apply i_var); exact rfl) | with_reducible refine' i_c ?_
  | with_reducible refine' i_asg ?_ | with_reducible refine' i_par ?_ | with_reducible refine' i_par2 ?_ | with_reducible refine' i_call ?_ | with_reducible refine' i_blt ?_ | with_reducible refine' i_op1 ?_ | with_reducible refine' i_tup ?_ | with_reducible refine' i_list ?_
  | ((with_reducible apply i_ex); walk_at "op") | ((with_reducible apply i_exk); walk_at "op")
  | with_reducible refine' i_val ?_ | with_reducible refine' i_exb ?_ | with_reducible refine' i_if ?_ | with_reducible refine' i_ret ?_ | with_reducible refine' i_nil ?_
  | with_reducible refine' i_T ?_ | with_reducible refine' i_F ?_ | with_reducible refine' i_tand ?_ | with_reducible refine' i_tor ?_ | with_reducible refine' i_tnot ?_ | with_reducible refine' i_yes ?_
  | with_reducible refine' i_and ?_ | with_reducible refine' i_or ?_ | with_reducible refine' i_not ?_ | with_reducible refine' i_ife ?_ | with_reducible refine' i_chain ?_
  | with_reducible refine' i_comp ?_ | with_reducible refine' i_iseq ?_ | with_reducible refine' i_irg1 ?_ | with_reducible refine' i_irg2 ?_ | with_reducible refine' i_izip ?_ | with_reducible refine' i_zipT ?_ | with_reducible refine' i_zipL ?_ | with_reducible refine' i_ienum ?_ | ((with_reducible apply i_enum); exact rfl) | with_reducible refine' i_irev ?_
  | with_reducible refine' i_for ?_ | with_reducible refine' i_lstrg ?_ | with_reducible refine' i_asgG ?_ | with_reducible refine' i_asgP ?_ | with_reducible refine' i_expr ?_ | with_reducible refine' i_retN ?_ | with_reducible refine' i_brk ?_ | with_reducible refine' i_cnt ?_
  | with_reducible refine' i_on ?_ | with_reducible refine' i_os ?_ | with_reducible refine' i_sl ?_ | ((with_reducible apply i_exl); exact rfl)
  | ((with_reducible refine' i_rg1 ?_ ?_); (constructor <;> omega)) | ((with_reducible refine' i_rg2 ?_ ?_); (refine ⟨?_, ?_, ?_, ?_⟩ <;> omega))
  | with_reducible refine' i_exi ?_
  | (with_reducible refine' i_len (Nat.le_of_ble_eq_true rfl) ?_)
  | ((with_reducible apply i_g); exact rfl) | ((with_reducible refine' i_plix ?_ ?_); exact rfl) | with_reducible refine' i_plset ?_ | with_reducible refine' i_np ?_
  | with_reducible refine' i_idxL ?_ | with_reducible refine' i_idl ?_ | with_reducible refine' i_idx ?_
  | ((with_reducible apply i_mut1); (exact rfl); walk_at "mut")
  | ((with_reducible apply Lib.i_keysT); exact rfl) | (with_reducible refine' Lib.i_dputT ?_) | ((with_reducible apply Lib.i_dputT0); exact rfl) | ((with_reducible apply Lib.i_dputT1); (exact rfl); omega)
  | (with_reducible refine' Lib.i_dput ?_) | ((with_reducible apply Lib.i_dput0); exact rfl) | ((with_reducible apply Lib.i_dput1); (exact rfl); omega)
  | ((with_reducible refine' i_dT ?_ ?_); walk_at "cond") | ((with_reducible refine' i_dF ?_ ?_); walk_at "cond") | ((with_reducible refine' i_ndT ?_ ?_); walk_at "cond") | ((with_reducible refine' i_ndF ?_ ?_); walk_at "cond")
  | ((with_reducible refine' i_bT ?_ ?_); (first | with_reducible assumption | exact rfl)) | ((with_reducible refine' i_bF ?_ ?_); (first | with_reducible assumption | exact rfl))
  | ((with_reducible apply i_setixm); (exact rfl); omega; omega) | (with_reducible refine' i_setix ?_) | ((with_reducible apply i_setix0); exact rfl) | ((with_reducible apply i_mut); exact rfl))
local macro_rules | `(tactic| walk_at "run") => `(tactic| (repeat (walk_at "s")); try walk_at "env")
local macro_rules | `(tactic| walk_at "start") => `(tactic| simp only [startE, List.map_cons, List.map_nil, List.length_cons, List.length_nil, Nat.reduceAdd, Nat.reduceSub, Nat.zero_add, List.replicate_succ, List.replicate_zero, List.cons_append, List.nil_append])
local macro_rules | `(tactic| walk_at "len") => `(tactic| first | omega | (simp only [List.length_map, List.length_append, List.length_cons, List.length_nil]; omega) | (refine Nat.le_trans ?_ (Nat.le_refl _); have := List.length_filter_le; simp_all; done))
local macro_rules | `(tactic| walk_at "opl") => `(tactic| first | ((with_reducible refine' addD_lm ?_); walk_at "len") | ((with_reducible refine' addD_tm ?_); walk_at "len") | ((with_reducible refine' addLD_lm ?_); walk_at "len"))
/-- a comprehension: of what is walked itself, of ints, pairs, truths -/
local macro_rules | `(tactic| walk_at "comp") => `(tactic| first
  | (refine comp_fil ?_ (fun x hx => ?_) ?_; rotate_left 1; focus ((try have hx1 := Fact.use (by assumption) hx); (try have hx2 := mem_ints.mp hx); (try dsimp only at hx1); refine ⟨_, rfl, fun R hR => ?_, fun hp R hR => ?_, rfl⟩ <;> (repeat (walk_at "s")) <;> exact hR))
  | (refine comp_all (en2 := PySem.PyData.int) ?_ (fun x hx => ?_) ?_; rotate_left 1; focus ((try have hx1 := Fact.use (by assumption) hx); (try have hx2 := mem_ints.mp hx); (try dsimp only at hx1); refine ⟨_, rfl, fun R hR => ?_, rfl⟩ <;> (repeat (walk_at "s")) <;> exact hR))
  | (refine comp_all (en2 := PySem.PyData.bool) ?_ (fun x hx => ?_) ?_; rotate_left 1; focus ((try have hx1 := Fact.use (by assumption) hx); (try have hx2 := mem_ints.mp hx); (try dsimp only at hx1); refine ⟨_, rfl, fun R hR => ?_, rfl⟩ <;> (repeat (walk_at "s")) <;> exact hR))
  | (refine comp_all (en2 := dP) ?_ (fun x hx => ?_) ?_; rotate_left 1; focus ((try have hx1 := Fact.use (by assumption) hx); (try have hx2 := mem_ints.mp hx); (try dsimp only at hx1); refine ⟨_, rfl, fun R hR => ?_, rfl⟩ <;> (repeat (walk_at "s")) <;> exact hR))
  | (refine comp_el (en2 := PySem.PyData.int) ?_ ?_ (fun x hx => ?_) ?_; rotate_left 2; focus ((try have hx1 := Fact.use (by assumption) hx); (try have hx2 := mem_ints.mp hx); (try dsimp only at hx1); refine ⟨_, rfl, fun R hR => ?_, fun hp R hR => ?_, rfl⟩ <;> (repeat (walk_at "s")) <;> exact hR))
  | (refine comp_el (en2 := dP) ?_ ?_ (fun x hx => ?_) ?_; rotate_left 2; focus ((try have hx1 := Fact.use (by assumption) hx); (try have hx2 := mem_ints.mp hx); (try dsimp only at hx1); refine ⟨_, rfl, fun R hR => ?_, fun hp R hR => ?_, rfl⟩ <;> (repeat (walk_at "s")) <;> exact hR))
  | (refine comp_el (en2 := PySem.PyData.bool) ?_ ?_ (fun x hx => ?_) ?_; rotate_left 2; focus ((try have hx1 := Fact.use (by assumption) hx); (try have hx2 := mem_ints.mp hx); (try dsimp only at hx1); refine ⟨_, rfl, fun R hR => ?_, fun hp R hR => ?_, rfl⟩ <;> (repeat (walk_at "s")) <;> exact hR))
  | (refine comp_allD (en2 := PySem.PyData.int) ?_ (fun x hx => ?_) ?_; rotate_left 1; focus ((try have hx1 := Fact.use (by assumption) hx); (try dsimp only at hx1); refine ⟨_, rfl, fun R hR => ?_, rfl⟩ <;> (repeat (walk_at "s")) <;> exact hR))
  | (refine comp_allD (en2 := PySem.PyData.bool) ?_ (fun x hx => ?_) ?_; rotate_left 1; focus ((try have hx1 := Fact.use (by assumption) hx); (try dsimp only at hx1); refine ⟨_, rfl, fun R hR => ?_, rfl⟩ <;> (repeat (walk_at "s")) <;> exact hR)))
local macro_rules | `(tactic| walk_at "runc") => `(tactic| (repeat (first | walk_at "s" | walk_at "comp")); try walk_at "env")
namespace Lib
open PySem
theorem slL_mid {α : Type} {f : α → D} {L : List α} {a b : Int} (h0 : 0 ≤ a) (h1 : 0 ≤ b) : slD (.list (L.map f)) (some a) (some b) = some (.list (((L.take b.toNat).drop a.toNat).map f)) := by
  obtain ⟨i, rfl⟩ : ∃ i : Nat, a = (i : Int) := ⟨a.toNat, by omega⟩
  obtain ⟨j, rfl⟩ : ∃ j : Nat, b = (j : Int) := ⟨b.toNat, by omega⟩
  have e1 : HT.sIx (L.map f).length 0 (some (i : Int)) = min i L.length := by simp [HT.sIx]; omega
  have e2 : HT.sIx (L.map f).length (L.map f).length (some (j : Int)) = min j L.length := by simp [HT.sIx]; omega
  simp only [slD, cut, e1, e2, Int.toNat_natCast]
  congr 2
  rw [← List.map_drop, ← List.map_take]
  congr 1
  refine List.ext_getElem ?_ fun k hk hk2 => ?_
  · simp only [List.length_take, List.length_drop]; omega
  · simp only [List.getElem_take, List.getElem_drop]
    congr 1
    simp only [List.length_take, List.length_drop] at hk hk2
    omega
/-- _law_some_otherwise: slots 0 pool:p, 1 row:v, 2 names:r, 3 found:o, 4 turn:v, 5 at:v, 6 name:v, 7 rest:v, 8 drawn_row:f, 9 k:v; modes ['pl', 'fz', 'rd']; answer nw -/
def wb_l_some_otherwise (S_l_next : FS) : WS :=
  (wSeq (wAsg 3 (wList (waCons (wVar 1) waNil)))
    (wSeq (wFor (wiRg1 (wC (.int 6))) (gN 4) (wSeq (wAsg 5 (wCall S_l_next (waCons (wVar 0) (waCons (wOp2 addD (wBlt lenD (waCons (wVar 1) waNil)) (wC (.int 1))) waNil))))
    (wSeq (wAsg 6 (wOp2 ixD (wVar 2) (wCall S_l_next (waCons (wVar 0) (waCons (wBlt lenD (waCons (wVar 2) waNil)) waNil)))))
    (wSeq (wAsg 7 (wSl slD (wVar 1) (woS (wOp2 addD (wVar 5) (wCall S_l_next (waCons (wVar 0) (waCons (wC (.int 2)) waNil))))) woN))
    (wExpr (wMut 3 appendF (waCons (wOp2 addD (wOp2 addD (wSl slD (wVar 1) woN (woS (wVar 5))) (wOp2 repLD (wList (waCons (wVar 6) waNil)) (wCall S_l_next (waCons (wVar 0) (waCons (wC (.int 2)) waNil))))) (wVar 7)) waNil)))))))
    (wSeq (wAsg 8 (wList waNil))
    (wSeq (wAsO 8 (wFor (wiRg1 (wCall S_l_next (waCons (wVar 0) (waCons (wC (.int 41)) waNil)))) (gN 9) (wExpr (wMut 8 appendF (waCons (wOp2 ixD (wVar 2) (wCall S_l_next (waCons (wVar 0) (waCons (wBlt lenD (waCons (wVar 2) waNil)) waNil)))) waNil)))))
    (wFrz 8 (wAsV 8 (wRet (wOp2 addLD (wVar 3) (wList (waCons (wVar 8) waNil))))))))))
def S_l_some_otherwise : FS := fun ds Post => ∃ row names : List Int, ds = [.none, LI row, LI names] ∧ row.length ≤ 1000 ∧ 0 < names.length ∧ names.length ≤ 1000 ∧ ∀ rs : List (List Int), rs.length ≤ 8 → (∀ r ∈ rs, r.length ≤ 2002) → Post (LL rs)
theorem m_l_some_otherwise {rk : RK} : ∀ ds Post, S_l_some_otherwise ds Post → wb_l_some_otherwise S_l_next { nx := fun _ => Post .none ∧ rk = .fz, rt := fun d _ => Post d } (startE 10 ds) := by
  rintro ds Post ⟨row, names, rfl, hr, hn0, hn, hP⟩
  unfold wb_l_some_otherwise
  walk_at "start"
  walk_at "run"
  refine for_st [3, 4, 5, 6, 7] (fun pre vs => ∃ (rs : List (List Int)) (a b c d : Option D), rs.length = pre.length + 1 ∧ (∀ r ∈ rs, r.length ≤ 2002) ∧ vs = [some (LL rs), a, b, c, d]) [_, _, _, _, _] rfl ⟨[row], _, _, _, _, rfl, by simp; omega, rfl⟩ ?_ ?_
  · rintro pre x post _ hL ⟨rs, a, b, c, d, hl, hb, rfl⟩ R hR
    have hpl : pre.length ≤ 5 := by
      have := congrArg List.length hL
      rw [ints_len] at this
      simp at this
      omega
    walk_at "run"
    refine next_i (by omega) (by omega) fun r r0 r1 => ?_
    walk_at "run"
    refine next_i (by omega) (by omega) fun r2 r20 r21 => ?_
    walk_at "run"
    refine next_i (by omega) (by omega) fun r3 r30 r31 => ?_
    walk_at "run"
    refine next_i (by omega) (by omega) fun r4 r40 r41 => ?_
    walk_at "run"
    refine i_ex (addD_lm (by rw [List.length_take, List.length_replicate]; omega)) ?_
    walk_at "run"
    refine i_ex (addD_lm (by rw [List.length_append, List.length_take, List.length_replicate, List.length_drop]; omega)) ?_
    walk_at "run"
    refine hR [_, _, _, _, _] ⟨_, _, _, _, _, by simp; omega, fun z hz => ?_, rfl⟩
    rcases List.mem_append.mp hz with hz | hz
    · exact hb z hz
    · simp only [List.mem_singleton] at hz
      subst hz
      simp only [List.length_append, List.length_take, List.length_replicate, List.length_drop]
      omega
  · rintro _ ⟨rs, a, b, c, d, hl, hb, rfl⟩
    rw [ints_len] at hl
    walk_at "run"
    refine next_i (by omega) (by omega) fun r r0 r1 => ?_
    walk_at "run"
    refine for_st [8, 9] (fun pre vs => ∃ (l : List Int) (a : Option D), l.length = pre.length ∧ vs = [some (LI l), a]) [_, _] rfl ⟨[], _, rfl, rfl⟩ ?_ ?_
    · rintro pre x post _ hL ⟨l, a, hl2, rfl⟩ R hR
      have hpl : pre.length ≤ 41 := by
        have := congrArg List.length hL
        rw [ints_len] at this
        simp at this
        omega
      walk_at "run"
      refine next_i (by omega) (by omega) fun r2 r20 r21 => ?_
      walk_at "run"
      exact hR [_, _] ⟨_, _, by simp; omega, rfl⟩
    · rintro _ ⟨l, a2, hl2, rfl⟩
      rw [ints_len] at hl2
      walk_at "run"
      refine i_ex (addLD_l1 (f := LI) (v := l) (by omega)) ?_
      refine hP _ (by simp; omega) fun z hz => ?_
      rcases List.mem_append.mp hz with hz | hz
      · exact hb z hz
      · simp only [List.mem_singleton] at hz
        subst hz
        omega
/-- _law_there_and_back: slots 0 pool:p, 1 web:r, 2 one:v, 3 row:r, 4 at:v, 5 here:v, 6 k:v, 7 some:v, 8 back:v; modes ['pl', 'rd', 'fz', 'rd']; answer fz -/
def wb_l_there_and_back (S_l_next : FS) (S_l_turned : FS) (S_l_free : FS) : WS :=
  (wSeq (wAsg 4 (wCall S_l_next (waCons (wVar 0) (waCons (wOp2 addD (wBlt lenD (waCons (wVar 3) waNil)) (wC (.int 1))) waNil))))
    (wSeq (wAsg 5 (wVar 2))
    (wSeq (wFor (wiSeq (wSl slD (wVar 3) woN (woS (wVar 4)))) (gN 6) (wAsg 5 (wCall S_l_turned (waCons (wVar 5) (waCons (wVar 6) waNil)))))
    (wSeq (wAsg 7 (wCall S_l_free (waCons (wVar 1) (waCons (wVar 5) waNil))))
    (wSeq (wAsg 8 (wOp2 ixD (wVar 7) (wCall S_l_next (waCons (wVar 0) (waCons (wBlt lenD (waCons (wVar 7) waNil)) waNil)))))
    (wRet (wOp2 addD (wOp2 addD (wSl slD (wVar 3) woN (woS (wVar 4))) (wList (waCons (wVar 8) (waCons (wVar 8) waNil)))) (wSl slD (wVar 3) (woS (wVar 4)) woN))))))))
def S_l_there_and_back : FS := fun ds Post => ∃ w p q row, ds = [.none, dW w, TI p, LI row] ∧ w.ok ∧ isP w p ∧ Acyc (arw w p) ∧ w.ts ≠ [] ∧ row.length ≤ 40 ∧ roadGo w p row = some q ∧ ∀ r2 : List Int, roadGo w p r2 = some q → r2.length = row.length + 2 → Post (LI r2)
theorem roadGo_split {w : Web} : ∀ {a b : List Int} {p q : List Int}, roadGo w p (a ++ b) = some q → ∃ h, roadGo w p a = some h ∧ roadGo w h b = some q
  | [], b, p, q, h => ⟨p, rfl, h⟩
  | k :: a, b, p, q, h => by
    rw [List.cons_append] at h
    unfold roadGo at h
    split at h
    · next c =>
      obtain ⟨x, h1, h2⟩ := roadGo_split h
      refine ⟨x, ?_, h2⟩
      unfold roadGo
      rw [if_pos c]
      exact h1
    · cases h
theorem m_l_there_and_back {rk : RK} : ∀ ds Post, S_l_there_and_back ds Post → wb_l_there_and_back S_l_next S_l_turned S_l_free { nx := fun _ => Post .none ∧ rk = .fz, rt := fun d _ => Post d } (startE 9 ds) := by
  rintro ds Post ⟨w, p, q, row, rfl, o, hp, ap, hne, hr, hg, hP⟩
  have h20 := o.len
  unfold wb_l_there_and_back
  walk_at "start"
  walk_at "run"
  refine next_i (by omega) (by omega) fun r r0 r1 => ?_
  walk_at "run"
  refine for_st [5, 6] (fun pre vs => ∃ here a, roadGo w p pre = some here ∧ vs = [some (TI here), a]) [_, _] rfl ⟨p, _, by unfold roadGo; rfl, rfl⟩ ?_ ?_
  · rintro pre k post _ hL ⟨here, a, hh, rfl⟩ R hR
    have hrow : row = pre ++ (k :: (post ++ row.drop r.toNat)) := by
      have := List.take_append_drop r.toNat row
      rw [hL] at this
      rw [List.append_assoc, List.cons_append] at this
      exact this.symm
    rw [hrow] at hg
    obtain ⟨x, h1, h2⟩ := roadGo_split hg
    rw [hh] at h1
    cases h1
    obtain ⟨hph, aph⟩ := roadGo_isP hp ap hh
    have hphl := hph.1
    unfold roadGo at h2
    split at h2
    · next c =>
      walk_at "run"
      refine ⟨here, k, rfl, by omega, c.1.1, c.1.2, ?_⟩
      walk_at "run"
      refine hR [_, _] ⟨_, _, ?_, rfl⟩
      rw [roadGo_app hh]
      exact roadGo_one c.1.1 c.1.2 (acB_t.mp c.2)
    · cases h2
  · rintro _ ⟨here, a, hh, rfl⟩
    obtain ⟨hph, aph⟩ := roadGo_isP hp ap hh
    have hphl := hph.1
    walk_at "run"
    refine ⟨w, here, rfl, o, hph, aph, ?_⟩
    have hfp := frees_ne o hph aph hne
    have hfle : (freesF w here).length ≤ 20 := by
      have h2 := List.length_filter_le (fun k => acB (arw w (turnF here k))) (irng 0 here.length)
      rw [ints_len] at h2
      unfold freesF
      omega
    walk_at "run"
    refine next_i (by omega) (by omega) fun r2 r20 r21 => ?_
    have hr2 : (freesF w here)[r2.toNat]! ∈ freesF w here := by rw [getElem!_pos (freesF w here) r2.toNat (by omega)]; exact List.getElem_mem _
    walk_at "run"
    generalize (freesF w here)[r2.toNat]! = bk at *
    obtain ⟨⟨b0, b1⟩, hfb⟩ := mem_frees.mp hr2
    refine i_ex (addD_lm (b := [bk, bk]) (by rw [List.length_take]; simp; omega)) ?_
    walk_at "run"
    refine i_ex (addD_lm (by rw [List.length_append, List.length_take, List.length_drop]; simp; omega)) ?_
    refine hP _ ?_ ?_
    · rw [List.append_assoc, roadGo_app hh, roadGo_app (roadGo_back hph aph b0 b1 hfb), ← roadGo_app hh, List.take_append_drop]
      exact hg
    · simp only [List.length_append, List.length_take, List.length_drop, List.length_cons, List.length_nil]
      omega
/-- _law_one_otherwise: slots 0 row:v, 1 names:r, 2 spare:r, 3 found:o, 4 at:v, 5 both:v, 6 name:v; modes ['fz', 'rd', 'rd']; answer nw -/
def wb_l_one_otherwise : WS :=
  (wSeq (wAsg 3 (wList (waCons (wVar 0) waNil)))
    (wSeq (wFor (wiRg1 (wBlt lenD (waCons (wVar 0) waNil))) (gN 4) (wSeq (wExpr (wMut 3 appendF (waCons (wOp2 addD (wSl slD (wVar 0) woN (woS (wVar 4))) (wSl slD (wVar 0) (woS (wOp2 addD (wVar 4) (wC (.int 1)))) woN)) waNil)))
    (wSeq (wAsg 5 (wOp2 addD (wSl slD (wVar 0) (woS (wOp2 addD (wVar 4) (wC (.int 1)))) (woS (wOp2 addD (wVar 4) (wC (.int 2))))) (wSl slD (wVar 0) (woS (wVar 4)) (woS (wOp2 addD (wVar 4) (wC (.int 1)))))))
    (wExpr (wMut 3 appendF (waCons (wOp2 addD (wOp2 addD (wSl slD (wVar 0) woN (woS (wVar 4))) (wVar 5)) (wSl slD (wVar 0) (woS (wOp2 addD (wVar 4) (wC (.int 2)))) woN)) waNil))))))
    (wSeq (wFor (wiSeq (wVar 1)) (gN 6) (wSeq (wFor (wiRg1 (wBlt lenD (waCons (wVar 0) waNil))) (gN 4) (wExpr (wMut 3 appendF (waCons (wOp2 addD (wOp2 addD (wSl slD (wVar 0) woN (woS (wVar 4))) (wList (waCons (wVar 6) waNil))) (wSl slD (wVar 0) (woS (wOp2 addD (wVar 4) (wC (.int 1)))) woN)) waNil))))
    (wExpr (wMut 3 appendF (waCons (wOp2 addD (wOp2 addD (wSl slD (wVar 0) woN (woS (wVar 2))) (wList (waCons (wVar 6) waNil))) (wSl slD (wVar 0) (woS (wVar 2)) woN)) waNil)))))
    (wRet (wVar 3)))))
def S_l_one_otherwise : FS := fun ds Post => ∃ (row names : List Int) (s : Int), ds = [LI row, LI names, .int s] ∧ row.length ≤ 100 ∧ names.length ≤ 100 ∧ 0 ≤ s ∧ s ≤ row.length ∧ ∀ rs : List (List Int), rs.length ≤ 20000 → (∀ r ∈ rs, r.length ≤ 102) → Post (LL rs)
theorem m_l_one_otherwise {rk : RK} : ∀ ds Post, S_l_one_otherwise ds Post → wb_l_one_otherwise { nx := fun _ => Post .none ∧ rk = .fz, rt := fun d _ => Post d } (startE 7 ds) := by
  rintro ds Post ⟨row, names, s, rfl, hr, hn, s0, s1, hP⟩
  have more : ∀ {rs : List (List Int)} {z : List Int}, (∀ r ∈ rs, r.length ≤ 102) → z.length ≤ 102 → ∀ r ∈ rs ++ [z], r.length ≤ 102 := fun h hz r hr => by
    rcases List.mem_append.mp hr with hr | hr
    · exact h r hr
    · simp only [List.mem_singleton] at hr; subst hr; exact hz
  unfold wb_l_one_otherwise
  walk_at "start"
  walk_at "run"
  refine for_st [3, 4, 5] (fun pre vs => ∃ (rs : List (List Int)) (a b : Option D), rs.length = 2 * pre.length + 1 ∧ (∀ r ∈ rs, r.length ≤ 102) ∧ vs = [some (LL rs), a, b]) [_, _, _] rfl ⟨[row], _, _, rfl, by simp; omega, rfl⟩ ?_ ?_
  · rintro pre x post _ hL ⟨rs, a, b, hl, hb, rfl⟩ R hR
    have hx : x ∈ irng 0 row.length := by rw [hL]; simp
    obtain ⟨x0, x1⟩ := mem_ints.mp hx
    have hpl : pre.length ≤ 100 := by
      have := congrArg List.length hL
      rw [ints_len] at this
      simp at this
      omega
    walk_at "run"
    refine i_ex (addD_lm (by rw [List.length_take, List.length_drop]; omega)) ?_
    walk_at "run"
    refine i_ex (slL_mid (by omega) (by omega)) ?_
    walk_at "run"
    refine i_ex (slL_mid (by omega) (by omega)) ?_
    walk_at "run"
    refine i_ex (addD_lm (by simp only [List.length_take, List.length_drop]; omega)) ?_
    walk_at "run"
    refine i_ex (addD_lm (by simp only [List.length_append, List.length_take, List.length_drop]; omega)) ?_
    walk_at "run"
    refine i_ex (addD_lm (by simp only [List.length_append, List.length_take, List.length_drop]; omega)) ?_
    walk_at "run"
    refine hR [_, _, _] ⟨_, _, _, ?_, more (more hb ?_) ?_, rfl⟩
    · simp only [List.length_append, List.length_singleton]; omega
    · simp only [List.length_append, List.length_take, List.length_drop]; omega
    · simp only [List.length_append, List.length_take, List.length_drop]; omega
  · rintro _ ⟨rs, a, b, hl, hb, rfl⟩
    rw [ints_len] at hl
    walk_at "run"
    refine for_st [3, 4, 6] (fun pre vs => ∃ (rs : List (List Int)) (a b : Option D), rs.length ≤ 201 + 101 * pre.length ∧ (∀ r ∈ rs, r.length ≤ 102) ∧ vs = [some (LL rs), a, b]) [_, _, _] rfl ⟨_, _, _, by simp; omega, hb, rfl⟩ ?_ ?_
    · rintro pre x post _ hL ⟨rs, a, b, hl, hb, rfl⟩ R hR
      have hpl : pre.length ≤ 100 := by
        have := congrArg List.length hL
        simp at this
        omega
      walk_at "run"
      refine for_st [3, 4] (fun pre2 vs => ∃ (rs : List (List Int)) (a : Option D), rs.length ≤ 201 + 101 * pre.length + pre2.length ∧ (∀ r ∈ rs, r.length ≤ 102) ∧ vs = [some (LL rs), a]) [_, _] rfl ⟨_, _, by simp; omega, hb, rfl⟩ ?_ ?_
      · rintro pre2 y post2 _ hL2 ⟨rs, a, hl, hb, rfl⟩ R2 hR2
        have hy : y ∈ irng 0 row.length := by rw [hL2]; simp
        obtain ⟨y0, y1⟩ := mem_ints.mp hy
        have hpl2 : pre2.length ≤ 100 := by
          have := congrArg List.length hL2
          rw [ints_len] at this
          simp at this
          omega
        walk_at "run"
        refine i_ex (addD_lm (b := [x]) (by rw [List.length_take]; simp; omega)) ?_
        walk_at "run"
        refine i_ex (addD_lm (by simp only [List.length_append, List.length_take, List.length_drop, List.length_singleton]; omega)) ?_
        walk_at "run"
        refine hR2 [_, _] ⟨_, _, ?_, more hb ?_, rfl⟩
        · simp only [List.length_append, List.length_singleton]; omega
        · simp only [List.length_append, List.length_take, List.length_drop, List.length_singleton]; omega
      · rintro _ ⟨rs, a, hl, hb, rfl⟩
        rw [ints_len] at hl
        walk_at "run"
        refine i_ex (addD_lm (b := [x]) (by rw [List.length_take]; simp; omega)) ?_
        walk_at "run"
        refine i_ex (addD_lm (by simp only [List.length_append, List.length_take, List.length_drop, List.length_singleton]; omega)) ?_
        walk_at "run"
        refine hR [_, _, _] ⟨_, _, _, ?_, more hb ?_, rfl⟩
        · simp only [List.length_append, List.length_singleton]; omega
        · simp only [List.length_append, List.length_take, List.length_drop, List.length_singleton]; omega
    · rintro _ ⟨rs, a, b, hl, hb, rfl⟩
      walk_at "run"
      exact hP _ (by omega) hb
end Lib
end G7

namespace G7

local macro_rules | `(tactic| walk_at "op") => `(tactic| first
  | with_reducible exact addD_i _ _ | with_reducible exact subD_i _ _ | with_reducible exact ltD_i _ _ | with_reducible exact leD_i _ _ | with_reducible exact gtD_i _ _ | with_reducible exact geD_i _ _
  | with_reducible exact eqD_i _ _ | with_reducible exact neD_i _ _ | with_reducible exact lenD_lm | with_reducible exact lenD_tm | with_reducible exact lenD_l _ | with_reducible exact lenD_t _ | with_reducible exact dP_0 _ | with_reducible exact dP_1 _
  | with_reducible exact ixD_t0 _ _ | with_reducible exact ixD_t1 _ _ _ | with_reducible exact ixD_t2 _ _ _ _ | with_reducible exact ixD_l0 _ _ | with_reducible exact ixD_l0m | with_reducible exact ixD_t0m | exact eqD_sT | exact eqD_sF | exact neD_sT | exact neD_sF | with_reducible exact ixD_l1 _ _ _
  | with_reducible exact Lib.dW_0 _ | with_reducible exact Lib.dW_1 _ | with_reducible exact tupD_l _ | with_reducible exact tupD_t _ | with_reducible exact lstD_l _ | with_reducible exact lstD_t _ | with_reducible exact max2D_i _ _ | with_reducible exact min2D_i _ _
  | with_reducible exact isTD_i | with_reducible exact tupRevD_m | ((with_reducible refine' indexD_li ?_); with_reducible assumption) | ((with_reducible refine' indexD_xi ?_); with_reducible assumption) | with_reducible exact isTD_s _ _ | with_reducible exact powD_6 | with_reducible exact powD_16 | with_reducible exact powD_18 | with_reducible exact isTD_t _ _ | with_reducible exact isTD_l _ _ | with_reducible exact isTD_b _ _ | with_reducible exact isTD_n _ | with_reducible exact isD_bb _ _ | with_reducible exact isNotD_bb _ _ | with_reducible exact isD_n' _ | with_reducible exact isD_lN _ | with_reducible exact isD_tN _ | with_reducible exact isNotD_lN _ | with_reducible exact isNotD_tN _ | with_reducible exact intD_b _ | with_reducible exact intD_i _ | with_reducible exact negD_i _ | with_reducible exact eqD_b _ _ | with_reducible exact neD_b _ _
  | with_reducible exact neD_l0 _ | with_reducible exact eqD_l0 _ | with_reducible exact eqD_li _ _ | with_reducible exact neD_li _ _ | with_reducible exact eqD_ti _ _ | with_reducible exact neD_ti _ _
  | with_reducible exact eqD_lp _ _ | with_reducible exact neD_lp _ _ | with_reducible exact eqD_tp _ _ | with_reducible exact neD_tp _ _
  | with_reducible exact inD_li _ _ | with_reducible exact inD_ti _ _ | with_reducible exact notInD_li _ _ | with_reducible exact notInD_ti _ _ | with_reducible exact inD_lp _ _ | with_reducible exact inD_tp _ _
  | with_reducible exact notInD_lp _ _ | with_reducible exact notInD_tp _ _ | with_reducible exact inD_lp' _ _ _ | with_reducible exact inD_tp' _ _ _ | with_reducible exact notInD_lp' _ _ _ | with_reducible exact notInD_tp' _ _ _
  | with_reducible exact inD_pair _ _ _ | with_reducible exact sortedAD_i _ | with_reducible exact sortedAD_p _ | with_reducible exact allD_b _ | with_reducible exact anyD_b _
  | ((with_reducible refine' addD_1m ?_); omega) | with_reducible exact Lib.maxAD_0 _ | with_reducible exact Lib.din_dI _ _ | with_reducible exact Lib.dinTD_p _ _ | with_reducible exact Lib.dninTD_p _ _ | with_reducible exact Lib.lenTD_p _ | with_reducible exact Lib.sortTLD_p _ | with_reducible exact Lib.dnin_dI _ _ | ((with_reducible apply Lib.dget_dI); with_reducible assumption) | ((with_reducible refine' repLD_0 ?_ ?_) <;> omega) | ((with_reducible refine' slT_tom ?_); omega) | ((with_reducible refine' slT_frm ?_); omega) | ((with_reducible refine' slL_tom ?_); omega) | ((with_reducible refine' slL_frm ?_); omega) | ((with_reducible refine' modD_i ?_); omega) | ((with_reducible refine' fdivD_i ?_ ?_) <;> omega) | ((with_reducible refine' mulID_i (okMul_l ?_ ?_)) <;> omega) | ((with_reducible refine' mulID_i (okMul_r ?_ ?_)) <;> omega)
  | ((with_reducible refine' ixD_lm ?_ ?_) <;> omega) | ((with_reducible refine' ixD_tm ?_ ?_) <;> omega) | with_reducible assumption)
local macro_rules | `(tactic| walk_at "env") => `(tactic| simp only [List.set_cons_zero, List.set_cons_succ, upd, wp_cons, wp_nil, back_cons, back_nil, List.getElem?_cons_zero, List.getElem?_cons_succ, Option.getD_some, toF])
local macro_rules | `(tactic| walk_at "cond") => `(tactic| first | assumption | omega | exact rfl | (focus (simp; done)))
local macro_rules | `(tactic| walk_at "mut") => `(tactic| first | ((with_reducible refine' popAtF_m ?_ ?_) <;> omega) | ((with_reducible refine' appendF_m ?_); first | omega | (simp only [List.length_append, List.length_map, List.length_cons, List.length_nil]; omega)) | ((with_reducible refine' removeF_i ?_); (first | assumption | (simp; done))) | ((with_reducible refine' extendF_m ?_); first | omega | (simp only [List.length_append, List.length_map, List.length_cons, List.length_nil]; omega)))
local macro_rules | `(tactic| walk_at "s") => `(tactic| first
  | with_reducible refine' i_seq ?_ | ((with_reducible apply i_frz); (exact rfl); (first | exact nt_l | exact nt_d)) | ((with_reducible apply i_asV); (exact rfl)) | ((with_reducible apply i_asO); (exact rfl); (first | exact nt_l | exact nt_d)) | with_reducible refine' i_op2 ?_ | with_reducible refine' i_acons ?_ | with_reducible refine' i_anil ?_ | ((with_reducible apply i_var); exact rfl) | with_reducible refine' i_c ?_
  | with_reducible refine' i_asg ?_ | with_reducible refine' i_par ?_ | with_reducible refine' i_par2 ?_ | with_reducible refine' i_call ?_ | with_reducible refine' i_blt ?_ | with_reducible refine' i_op1 ?_ | with_reducible refine' i_tup ?_ | with_reducible refine' i_list ?_
  | ((with_reducible apply i_ex); walk_at "op") | ((with_reducible apply i_exk); walk_at "op")
  | with_reducible refine' i_val ?_ | with_reducible refine' i_exb ?_ | with_reducible refine' i_if ?_ | with_reducible refine' i_ret ?_ | with_reducible refine' i_nil ?_
  | with_reducible refine' i_T ?_ | with_reducible refine' i_F ?_ | with_reducible refine' i_tand ?_ | with_reducible refine' i_tor ?_ | with_reducible refine' i_tnot ?_ | with_reducible refine' i_yes ?_
  | with_reducible refine' i_and ?_ | with_reducible refine' i_or ?_ | with_reducible refine' i_not ?_ | with_reducible refine' i_ife ?_ | with_reducible refine' i_chain ?_
  | with_reducible refine' i_comp ?_ | with_reducible refine' i_iseq ?_ | with_reducible refine' i_irg1 ?_ | with_reducible refine' i_irg2 ?_ | with_reducible refine' i_izip ?_ | with_reducible refine' i_zipT ?_ | with_reducible refine' i_zipL ?_ | with_reducible refine' i_ienum ?_ | ((with_reducible apply i_enum); exact rfl) | with_reducible refine' i_irev ?_
  | with_reducible refine' i_for ?_ | with_reducible refine' i_lstrg ?_ | with_reducible refine' i_asgG ?_ | with_reducible refine' i_asgP ?_ | with_reducible refine' i_expr ?_ | with_reducible refine' i_retN ?_ | with_reducible refine' i_brk ?_ | with_reducible refine' i_cnt ?_
  | with_reducible refine' i_on ?_ | with_reducible refine' i_os ?_ | with_reducible refine' i_sl ?_ | ((with_reducible apply i_exl); exact rfl)
  | ((with_reducible refine' i_rg1 ?_ ?_); (constructor <;> omega)) | ((with_reducible refine' i_rg2 ?_ ?_); (refine ⟨?_, ?_, ?_, ?_⟩ <;> omega))
  | with_reducible refine' i_exi ?_
  | (with_reducible refine' i_len (Nat.le_of_ble_eq_true rfl) ?_)
  | ((with_reducible apply i_g); exact rfl) | ((with_reducible refine' i_plix ?_ ?_); exact rfl) | with_reducible refine' i_plset ?_ | with_reducible refine' i_np ?_
  | with_reducible refine' i_idxL ?_ | with_reducible refine' i_idl ?_ | with_reducible refine' i_idx ?_
  | ((with_reducible apply i_mut1); (exact rfl); walk_at "mut")
  | ((with_reducible apply Lib.i_keysT); exact rfl) | (with_reducible refine' Lib.i_dputT ?_) | ((with_reducible apply Lib.i_dputT0); exact rfl) | ((with_reducible apply Lib.i_dputT1); (exact rfl); omega)
  | (with_reducible refine' Lib.i_dput ?_) | ((with_reducible apply Lib.i_dput0); exact rfl) | ((with_reducible apply Lib.i_dput1); (exact rfl); omega)
  | ((with_reducible refine' i_dT ?_ ?_); walk_at "cond") | ((with_reducible refine' i_dF ?_ ?_); walk_at "cond") | ((with_reducible refine' i_ndT ?_ ?_); walk_at "cond") | ((with_reducible refine' i_ndF ?_ ?_); walk_at "cond")
  | ((with_reducible refine' i_bT ?_ ?_); (first | with_reducible assumption | exact rfl)) | ((with_reducible refine' i_bF ?_ ?_); (first | with_reducible assumption | exact rfl))
  | ((with_reducible apply i_setixm); (exact rfl); omega; omega) | (with_reducible refine' i_setix ?_) | ((with_reducible apply i_setix0); exact rfl) | ((with_reducible apply i_mut); exact rfl))
local macro_rules | `(tactic| walk_at "run") => `(tactic| (repeat (walk_at "s")); try walk_at "env")
local macro_rules | `(tactic| walk_at "start") => `(tactic| simp only [startE, List.map_cons, List.map_nil, List.length_cons, List.length_nil, Nat.reduceAdd, Nat.reduceSub, Nat.zero_add, List.replicate_succ, List.replicate_zero, List.cons_append, List.nil_append])
local macro_rules | `(tactic| walk_at "len") => `(tactic| first | omega | (simp only [List.length_map, List.length_append, List.length_cons, List.length_nil]; omega) | (refine Nat.le_trans ?_ (Nat.le_refl _); have := List.length_filter_le; simp_all; done))
local macro_rules | `(tactic| walk_at "opl") => `(tactic| first | ((with_reducible refine' addD_lm ?_); walk_at "len") | ((with_reducible refine' addD_tm ?_); walk_at "len") | ((with_reducible refine' addLD_lm ?_); walk_at "len"))
/-- a comprehension: of what is walked itself, of ints, pairs, truths -/
local macro_rules | `(tactic| walk_at "comp") => `(tactic| first
  | (refine comp_fil ?_ (fun x hx => ?_) ?_; rotate_left 1; focus ((try have hx1 := Fact.use (by assumption) hx); (try have hx2 := mem_ints.mp hx); (try dsimp only at hx1); refine ⟨_, rfl, fun R hR => ?_, fun hp R hR => ?_, rfl⟩ <;> (repeat (walk_at "s")) <;> exact hR))
  | (refine comp_all (en2 := PySem.PyData.int) ?_ (fun x hx => ?_) ?_; rotate_left 1; focus ((try have hx1 := Fact.use (by assumption) hx); (try have hx2 := mem_ints.mp hx); (try dsimp only at hx1); refine ⟨_, rfl, fun R hR => ?_, rfl⟩ <;> (repeat (walk_at "s")) <;> exact hR))
  | (refine comp_all (en2 := PySem.PyData.bool) ?_ (fun x hx => ?_) ?_; rotate_left 1; focus ((try have hx1 := Fact.use (by assumption) hx); (try have hx2 := mem_ints.mp hx); (try dsimp only at hx1); refine ⟨_, rfl, fun R hR => ?_, rfl⟩ <;> (repeat (walk_at "s")) <;> exact hR))
  | (refine comp_all (en2 := dP) ?_ (fun x hx => ?_) ?_; rotate_left 1; focus ((try have hx1 := Fact.use (by assumption) hx); (try have hx2 := mem_ints.mp hx); (try dsimp only at hx1); refine ⟨_, rfl, fun R hR => ?_, rfl⟩ <;> (repeat (walk_at "s")) <;> exact hR))
  | (refine comp_el (en2 := PySem.PyData.int) ?_ ?_ (fun x hx => ?_) ?_; rotate_left 2; focus ((try have hx1 := Fact.use (by assumption) hx); (try have hx2 := mem_ints.mp hx); (try dsimp only at hx1); refine ⟨_, rfl, fun R hR => ?_, fun hp R hR => ?_, rfl⟩ <;> (repeat (walk_at "s")) <;> exact hR))
  | (refine comp_el (en2 := dP) ?_ ?_ (fun x hx => ?_) ?_; rotate_left 2; focus ((try have hx1 := Fact.use (by assumption) hx); (try have hx2 := mem_ints.mp hx); (try dsimp only at hx1); refine ⟨_, rfl, fun R hR => ?_, fun hp R hR => ?_, rfl⟩ <;> (repeat (walk_at "s")) <;> exact hR))
  | (refine comp_el (en2 := PySem.PyData.bool) ?_ ?_ (fun x hx => ?_) ?_; rotate_left 2; focus ((try have hx1 := Fact.use (by assumption) hx); (try have hx2 := mem_ints.mp hx); (try dsimp only at hx1); refine ⟨_, rfl, fun R hR => ?_, fun hp R hR => ?_, rfl⟩ <;> (repeat (walk_at "s")) <;> exact hR))
  | (refine comp_allD (en2 := PySem.PyData.int) ?_ (fun x hx => ?_) ?_; rotate_left 1; focus ((try have hx1 := Fact.use (by assumption) hx); (try dsimp only at hx1); refine ⟨_, rfl, fun R hR => ?_, rfl⟩ <;> (repeat (walk_at "s")) <;> exact hR))
  | (refine comp_allD (en2 := PySem.PyData.bool) ?_ (fun x hx => ?_) ?_; rotate_left 1; focus ((try have hx1 := Fact.use (by assumption) hx); (try dsimp only at hx1); refine ⟨_, rfl, fun R hR => ?_, rfl⟩ <;> (repeat (walk_at "s")) <;> exact hR)))
local macro_rules | `(tactic| walk_at "runc") => `(tactic| (repeat (first | walk_at "s" | walk_at "comp")); try walk_at "env")
namespace K19
open PySem Lib
def S_l_pool : FS := Lib.S_l_dig
theorem m_l_pool : ∀ ds Post, S_l_pool ds Post → wb_l_pool { nx := fun _ => Post .none ∧ RK.nw = .fz, rt := fun d _ => Post d } (startE 1 ds) := Lib.m_l_dig
def S_l_next : FS := Lib.S_l_next
theorem m_l_next : ∀ ds Post, S_l_next ds Post → wb_l_next { nx := fun _ => Post .none ∧ RK.fz = .fz, rt := fun d _ => Post d } (startE 5 ds) := Lib.m_l_nextC
def S_l_shuffled : FS := Lib.S_l_shuffled
theorem m_l_shuffled : ∀ ds Post, S_l_shuffled ds Post → wb_l_shuffled S_l_next { nx := fun _ => Post .none ∧ RK.fz = .fz, rt := fun d _ => Post d } (startE 4 ds) := Lib.m_l_shuffled
def S_l_pair : FS := Lib.S_l_pair
theorem m_l_pair : ∀ ds Post, S_l_pair ds Post → wb_l_pair { nx := fun _ => Post .none ∧ RK.fz = .fz, rt := fun d _ => Post d } (startE 2 ds) := Lib.m_l_pair
def S_l_web : FS := Lib.S_l_webD
theorem m_l_web : ∀ ds Post, S_l_web ds Post → wb_l_web S_l_next S_l_shuffled S_l_pair { nx := fun _ => Post .none ∧ RK.fz = .fz, rt := fun d _ => Post d } (startE 12 ds) := Lib.m_l_webD
def S_l_turned : FS := Lib.S_l_turned
theorem m_l_turned : ∀ ds Post, S_l_turned ds Post → wb_l_turned { nx := fun _ => Post .none ∧ RK.fz = .fz, rt := fun d _ => Post d } (startE 2 ds) := Lib.m_l_turned
def S_l_flows : FS := Lib.S_l_flows
theorem m_l_flows : ∀ ds Post, S_l_flows ds Post → wb_l_flows { nx := fun _ => Post .none ∧ RK.fz = .fz, rt := fun d _ => Post d } (startE 6 ds) := Lib.m_l_flows
def S_l_reached : FS := Lib.S_l_reached
theorem m_l_reached : ∀ ds Post, S_l_reached ds Post → wb_l_reached { nx := fun _ => Post .none ∧ RK.fz = .fz, rt := fun d _ => Post d } (startE 6 ds) := Lib.m_l_reached
def S_l_free : FS := Lib.S_l_free
theorem m_l_free : ∀ ds Post, S_l_free ds Post → wb_l_free S_l_flows S_l_reached { nx := fun _ => Post .none ∧ RK.fz = .fz, rt := fun d _ => Post d } (startE 7 ds) := Lib.m_l_free
def S_l_made_road : FS := Lib.S_l_made_road
theorem m_l_made_road : ∀ ds Post, S_l_made_road ds Post → wb_l_made_road S_l_free S_l_next S_l_turned { nx := fun _ => Post .none ∧ RK.fz = .fz, rt := fun d _ => Post d } (startE 9 ds) := Lib.m_l_made_road
def S_l_some_otherwise : FS := Lib.S_l_some_otherwise
theorem m_l_some_otherwise : ∀ ds Post, S_l_some_otherwise ds Post → wb_l_some_otherwise S_l_next { nx := fun _ => Post .none ∧ RK.nw = .fz, rt := fun d _ => Post d } (startE 10 ds) := Lib.m_l_some_otherwise
def S_turned : FS := Lib.S_turned
theorem m_turned : ∀ ds Post, S_turned ds Post → wb_turned { nx := fun _ => Post .none ∧ RK.fz = .fz, rt := fun d _ => Post d } (startE 3 ds) := Lib.m_turned
def S_arrows : FS := Lib.S_arrows
theorem m_arrows : ∀ ds Post, S_arrows ds Post → wb_arrows { nx := fun _ => Post .none ∧ RK.fz = .fz, rt := fun d _ => Post d } (startE 4 ds) := Lib.m_arrows
def S_before : FS := Lib.S_before
theorem m_before : ∀ ds Post, S_before ds Post → wb_before { nx := fun _ => Post .none ∧ RK.fz = .fz, rt := fun d _ => Post d } (startE 5 ds) := Lib.m_before
def S_round_in : FS := Lib.S_round_in
theorem m_round_in : ∀ ds Post, S_round_in ds Post → wb_round_in S_before { nx := fun _ => Post .none ∧ RK.fz = .fz, rt := fun d _ => Post d } (startE 4 ds) := Lib.m_round_in
def S_looked : FS := Lib.S_looked
theorem m_looked : ∀ ds Post, S_looked ds Post → wb_looked S_arrows S_before S_round_in { nx := fun _ => Post .none ∧ RK.fz = .fz, rt := fun d _ => Post d } (startE 7 ds) := Lib.m_looked
def S_is_fall : FS := Lib.S_is_fall
theorem m_is_fall : ∀ ds Post, S_is_fall ds Post → wb_is_fall S_looked { nx := fun _ => Post .none ∧ RK.fz = .fz, rt := fun d _ => Post d } (startE 2 ds) := Lib.m_is_fall
def S_is_free : FS := Lib.S_is_free
theorem m_is_free : ∀ ds Post, S_is_free ds Post → wb_is_free S_is_fall S_turned { nx := fun _ => Post .none ∧ RK.fz = .fz, rt := fun d _ => Post d } (startE 3 ds) := Lib.m_is_free
def S_road_right : FS := Lib.S_road_right
theorem m_road_right : ∀ ds Post, S_road_right ds Post → wb_road_right S_is_free S_turned { nx := fun _ => Post .none ∧ RK.fz = .fz, rt := fun d _ => Post d } (startE 6 ds) := Lib.m_road_right
def S_l_fall : FS := Lib.S_l_fallC
theorem m_l_fall : ∀ ds Post, S_l_fall ds Post → wb_l_fall S_l_shuffled { nx := fun _ => Post .none ∧ RK.fz = .fz, rt := fun d _ => Post d } (startE 5 ds) := Lib.m_l_fallC
def S_l_there_and_back : FS := Lib.S_l_there_and_back
theorem m_l_there_and_back : ∀ ds Post, S_l_there_and_back ds Post → wb_l_there_and_back S_l_next S_l_turned S_l_free { nx := fun _ => Post .none ∧ RK.fz = .fz, rt := fun d _ => Post d } (startE 9 ds) := Lib.m_l_there_and_back
def S_l_one_otherwise : FS := Lib.S_l_one_otherwise
theorem m_l_one_otherwise : ∀ ds Post, S_l_one_otherwise ds Post → wb_l_one_otherwise { nx := fun _ => Post .none ∧ RK.nw = .fz, rt := fun d _ => Post d } (startE 7 ds) := Lib.m_l_one_otherwise
def S_l_is_fall : FS := Lib.S_is_fall
theorem m_l_is_fall : ∀ ds Post, S_l_is_fall ds Post → wb_l_is_fall S_l_flows { nx := fun _ => Post .none ∧ RK.fz = .fz, rt := fun d _ => Post d } (startE 9 ds) := Lib.m_l_is_fallC
def S_l_is_road : FS := Lib.S_l_is_road
theorem m_l_is_road : ∀ ds Post, S_l_is_road ds Post → wb_l_is_road S_l_is_fall S_l_turned { nx := fun _ => Post .none ∧ RK.fz = .fz, rt := fun d _ => Post d } (startE 6 ds) := Lib.m_l_is_road
theorem m_law : ∀ ds Post, lawS ds Post → wb_law S_l_pool S_l_next S_l_web S_l_fall S_l_made_road S_l_there_and_back S_l_some_otherwise S_l_one_otherwise S_road_right S_l_is_road { nx := fun _ => Post .none ∧ RK.fz = .fz, rt := fun d _ => Post d } (startE 13 ds) := by
  rintro ds Post ⟨ns, rfl, hl, h⟩
  unfold wb_law
  walk_at "start"
  have h6 : (ns.take (Int.toNat 6)).length ≤ 1000 := by rw [List.length_take]; omega
  have hix : ∀ (sm : Bool) (a b : Int), ixD (.list [.int a, .int b]) (.int (if sm = true then 1 else 0)) = some (.int (if sm = true then b else a)) := fun sm a b => by cases sm <;> rfl
  walk_at "run"
  refine for_st (enc := .int) [1, 2, 3, 4, 5, 6, 7, 8, 9, 10, 11, 12] (fun _ => J12) [_, _, _, _, _, _, _, _, _, _, _, _] rfl ⟨_, _, _, _, _, _, _, _, _, _, _, _, rfl⟩ ?_ ?_
  · rintro pre x post _ hL ⟨a, b, c, d, e, f, g, h, i, j, k, l, rfl⟩ R hR
    walk_at "run"
    refine ⟨x, rfl, fun x1 x2 x3 => ?_⟩
    walk_at "run"
    refine ⟨x1, x2, x3, rfl, ?_⟩
    walk_at "run"
    refine next_i (by omega) (by omega) fun r r0 r1 => ?_
    walk_at "run"
    generalize decide (r = 0) = sm
    refine i_ex (hix sm 9 5) ?_
    walk_at "run"
    refine i_ex (hix sm 20 6) ?_
    walk_at "run"
    refine ⟨_, _, _, rfl, by split <;> omega, by split <;> omega, by simp, by split <;> omega, by split <;> omega, fun w o _ _ _ => ?_⟩
    have n1 := o.n1
    have n9 := o.n9
    have h20 := o.len
    walk_at "run"
    refine ⟨w, rfl, o, fun p hp ap => ?_⟩
    walk_at "run"
    refine ⟨w, rfl, o, fun q hq aq => ?_⟩
    have hpl := hp.1
    walk_at "run"
    refine ⟨w, p, q, rfl, o, hp, hq, ap, aq, fun row0 hrow0 hrl0 => ?_⟩
    walk_at "run"
    refine while_cut [7] (fun vs => ∃ row : List Int, roadGo w p row = some q ∧ row.length ≤ 40 ∧ vs = [some (LI row)]) (fun vs => match vs with | some (.list l) :: _ => 100 - l.length | _ => 0) [_] rfl ⟨row0, hrow0, hrl0, rfl⟩ ?_ ?_
    · rintro _ ⟨row, hrow, hrl, rfl⟩ R2 X hR2 hX
      cases sm with
      | true =>
        walk_at "run"
        exact hX [_] ⟨row, hrow, hrl, rfl⟩
      | false =>
        walk_at "run"
        refine i_ex (neD_tp w.ts []) ?_
        by_cases e1 : w.ts = []
        · walk_at "run"
          exact hX [_] ⟨row, hrow, hrl, rfl⟩
        walk_at "run"
        refine next_i (by omega) (by omega) fun r2 r20 r21 => ?_
        walk_at "run"
        by_cases e2 : 0 < r2
        · by_cases e3 : row.length < 39
          · walk_at "run"
            refine ⟨w, p, q, row, rfl, o, hp, ap, e1, hrl, hrow, fun row2 g1 g2 => ?_⟩
            walk_at "run"
            refine hR2 [_] ⟨row2, g1, by omega, rfl⟩ ?_
            simp only [List.length_map]
            omega
          · walk_at "run"
            exact hX [_] ⟨row, hrow, hrl, rfl⟩
        · walk_at "run"
          exact hX [_] ⟨row, hrow, hrl, rfl⟩
    rintro _ ⟨row, hrow, hrl, rfl⟩
    walk_at "run"
    refine i_ex (show powD (.int 10) (.int 9) = some (.int 1000000000) by simp [powD]) ?_
    walk_at "run"
    refine next_i (by omega) (by omega) fun r2 r20 r21 => ?_
    walk_at "run"
    refine i_ex (addD_lm (b := [-1, (p.length : Int), (p.length : Int) + r2]) (by rw [ints_len]; simp; omega)) ?_
    have hnl : (irng 0 (p.length : Int) ++ [-1, (p.length : Int), (p.length : Int) + r2]).length = p.length + 3 := by
      rw [List.length_append, ints_len]; simp
    generalize irng 0 (p.length : Int) ++ [-1, (p.length : Int), (p.length : Int) + r2] = names at *
    walk_at "run"
    refine ⟨row, names, rfl, by omega, by omega, by omega, fun rs0 hrs0 hb0 => ?_⟩
    refine cut_st [9] (fun vs => ∃ rs : List (List Int), vs = [some (LL rs)]) (fun R2 hR2 => ?_) ?_
    · cases sm with
      | false =>
        walk_at "run"
        exact hR2 [_] ⟨_, rfl⟩
      | true =>
        by_cases e1 : row.length < 12
        · walk_at "run"
          refine next_i (by omega) (by omega) fun r3 r30 r31 => ?_
          walk_at "run"
          refine ⟨row, names, r3, rfl, by omega, by omega, by omega, by omega, fun rs2 h1 h2 => ?_⟩
          walk_at "run"
          exact hR2 [_] ⟨_, rfl⟩
        · walk_at "run"
          exact hR2 [_] ⟨_, rfl⟩
    rintro _ ⟨rs, rfl⟩
    walk_at "run"
    refine for_st (enc := LI) [10, 11, 12] (fun _ => J3) [_, _, _] rfl ⟨_, _, _, rfl⟩ ?_ ?_
    · rintro pre z post _ hL2 ⟨a, b, c, rfl⟩ R2 hR2
      walk_at "run"
      refine ⟨w, p, q, LI z, z, rfl, rfl, o, hp, ?_⟩
      walk_at "run"
      refine ⟨w, p, q, z, rfl, o, hp, ?_⟩
      walk_at "run"
      obtain ⟨due, hdue⟩ : ∃ b, decide (roadGo w p z = some q) = b := ⟨_, rfl⟩
      rw [hdue]
      rw [show (!(due == due)) = false by simp]
      walk_at "run"
      refine next_i (by omega) (by omega) fun r4 r40 r41 => ?_
      by_cases e4 : r4 = 0
      · walk_at "run"
        refine ⟨w, p, q, TI z, z, rfl, rfl, o, hp, ?_⟩
        walk_at "run"
        rw [hdue, show (!(due == due)) = false by simp]
        walk_at "run"
        exact hR2 [_, _, _] ⟨_, _, _, rfl⟩
      · walk_at "run"
        exact hR2 [_, _, _] ⟨_, _, _, rfl⟩
    · rintro _ ⟨a, b, c, rfl⟩
      walk_at "run"
      exact hR [_, _, _, _, _, _, _, _, _, _, _, _] ⟨_, _, _, _, _, _, _, _, _, _, _, _, rfl⟩
  · rintro _ ⟨a, b, c, d, e, f, g, h1, i, j, k, l, rfl⟩
    walk_at "run"
    refine ⟨⟨1, []⟩, [], [], _, [], rfl, rfl, ?_, ?_, ?_⟩
    · exact ⟨by decide, by decide, by simp, by simp, by simp⟩
    · exact ⟨rfl, by simp⟩
    · walk_at "run"
      simpa [roadGo] using h

end K19
end G7

set_option maxRecDepth 100000
set_option maxHeartbeats 4000000
namespace G7
namespace K19
open PySem PySem.Spec PyProof.Rows L2
def topS (i : Nat) : Stmt := PySem.Challenge.pw_rillturn_k19_roads_judged.main.body.getD i (.Pass ⟨0, 0, 0, 0⟩)
structure TX (mg : Str → Option Value) : Prop where
  b_bool : mg "bool" = none
  b_enumerate : mg "enumerate" = none
  b_int : mg "int" = none
  b_isinstance : mg "isinstance" = none
  b_len : mg "len" = none
  b_list : mg "list" = none
  b_max : mg "max" = none
  b_min : mg "min" = none
  b_range : mg "range" = none
  b_reversed : mg "reversed" = none
  b_sorted : mg "sorted" = none
  b_tuple : mg "tuple" = none
  b_zip : mg "zip" = none
abbrev s_l_pool : Stmt := topS 11
abbrev N_l_pool : List Str := ["cell"]
abbrev k_l_pool : List SK := [.r]
theorem sc_l_pool : FnScope N_l_pool ["cell"] (defScope s_l_pool) := ⟨rfl, rfl, rfl, by decide +kernel, rfl, by decide +kernel, by decide +kernel⟩
theorem b_l_pool {P : Program} {w : World} {K : PySem.W.Frag} {mg : Str → Option Value} {base : Heap} (T : TX mg) {f : Addr} (cdv : Value) (A : Around) (outer : List Env) (s : Shared) (H : Hp) (E : XK) (hr : Room 0 (A.deeper (envOfC "_law_pool" (defScope s_l_pool) s.heap.objs.size f cdv))) :
    SSs (cxOf CX0 P w K mg base N_l_pool "_law_pool" (defScope s_l_pool) f cdv A outer s H E).nox k_l_pool [] .nw (defBody s_l_pool) (wb_l_pool) :=
  (sss_one (ss_retw (Me := []) (se_lst (sa_cons (se_blt (call_max2 rfl) bd_max2 (by rfl) T.b_max bt_max (sa_cons se_int (sa_cons (se_bin op_sub od_sub (se_r (pv 0) rfl) (se_bin op_pow od_pow se_int se_int)) sa_nil))) (sa_cons (se_bin op_mod od_mod (se_r (pv 0) rfl) (se_bin op_pow od_pow se_int se_int)) (sa_cons se_int sa_nil))))))
theorem g_l_pool {P : Program} {w : World} {K : PySem.W.Frag} {mg : Str → Option Value} {base : Heap} {f : Addr} {fd : FuncData} (T : TX mg) (F : Fun K "_law_pool" "_law_pool" s_l_pool f fd) (hm : mg "_law_pool" = some (.ref f)) : FnB P w K mg base 1 "_law_pool" ["cell"] [.rd] .nw S_l_pool :=
  ⟨f, fd, fn_def [.rd] F sc_l_pool rfl rfl rfl (by first | exact .inl rfl | exact .inr rfl) (by intro i; match i with | i => exact noq (by decide) i) (b_l_pool T) m_l_pool, hm, F.kp, F.binds fun _ _ _ _ _ _ us hl => match us, hl with | [_], _ => rfl⟩
abbrev s_l_next : Stmt := topS 12
abbrev N_l_next : List Str := ["pool", "base", "digit", "mixed", "stir"]
abbrev k_l_next : List SK := [.p, .r, .v, .v, .v]
theorem sc_l_next : FnScope N_l_next ["pool", "base"] (defScope s_l_next) := ⟨rfl, rfl, rfl, by decide +kernel, rfl, by decide +kernel, by decide +kernel⟩
theorem b_l_next {P : Program} {w : World} {K : PySem.W.Frag} {mg : Str → Option Value} {base : Heap} (T : TX mg) {f : Addr} (cdv : Value) (A : Around) (outer : List Env) (s : Shared) (H : Hp) (E : XK) (hr : Room 0 (A.deeper (envOfC "_law_next" (defScope s_l_next) s.heap.objs.size f cdv))) :
    SSs (cxOf CX0 P w K mg base N_l_next "_law_next" (defScope s_l_next) f cdv A outer s H E).nox k_l_next [] .fz (defBody s_l_next) (wb_l_next) :=
  (sss_cons (ss_if (Me := []) (st_cmp op_gt od_gt (se_plix (pv 0) rfl) se_int (nomark _)) (sss_cons (ss_set (Me := []) (i := 2) sc_l_next.nd rfl (by first | exact Or.inl rfl | exact Or.inr rfl) (se_bin op_mod od_mod (se_plix (pv 0) rfl) (se_r (pv 1) rfl)) rfl)
      (sss_cons (ss_plset (Me := []) (pv 0) (se_bin op_fdiv od_fdiv (se_plix (pv 0) rfl) (se_r (pv 1) rfl)) rfl)
      (sss_one (ss_ret (Me := []) (se_v (pv 2) rfl))))) sss_nil)
      (sss_cons (ss_plset (Me := []) (pv 0) (se_bin op_addF od_add (se_plix (pv 0) rfl) se_int) rfl)
      (sss_cons (ss_set (Me := []) (i := 3) sc_l_next.nd rfl (by first | exact Or.inl rfl | exact Or.inr rfl) (se_bin op_mod od_mod (se_bin op_addF od_add (se_plix (pv 0) rfl) (se_bin op_mul od_mulI se_int (se_plix (pv 0) rfl))) se_int) rfl)
      (sss_cons (ss_set (Me := []) (i := 4) sc_l_next.nd rfl (by first | exact Or.inl rfl | exact Or.inr rfl) (se_bin op_mod od_mod (se_bin op_mul od_mulI (se_bin op_addF od_add (se_v (pv 3) rfl) se_int) (se_bin op_addF od_add (se_v (pv 3) rfl) se_int)) se_int) rfl)
      (sss_one (ss_ret (Me := []) (se_bin op_mod od_mod (se_bin op_fdiv od_fdiv (se_bin op_mod od_mod (se_bin op_mul od_mulI (se_v (pv 4) rfl) (se_v (pv 4) rfl)) se_int) se_int) (se_r (pv 1) rfl))))))))
theorem g_l_next {P : Program} {w : World} {K : PySem.W.Frag} {mg : Str → Option Value} {base : Heap} {f : Addr} {fd : FuncData} (T : TX mg) (F : Fun K "_law_next" "_law_next" s_l_next f fd) (hm : mg "_law_next" = some (.ref f)) : FnB P w K mg base 1 "_law_next" ["pool", "base"] [.pl, .rd] .fz S_l_next :=
  ⟨f, fd, fn_def [.pl, .rd] F sc_l_next rfl rfl rfl (by first | exact .inl rfl | exact .inr rfl) (by intro i; match i with | i => exact noq (by decide) i) (b_l_next T) m_l_next, hm, F.kp, F.binds fun _ _ _ _ _ _ us hl => match us, hl with | [_, _], _ => rfl⟩
abbrev s_l_shuffled : Stmt := topS 13
abbrev N_l_shuffled : List Str := ["pool", "many", "left", "found"]
abbrev k_l_shuffled : List SK := [.p, .r, .o, .o]
theorem sc_l_shuffled : FnScope N_l_shuffled ["pool", "many"] (defScope s_l_shuffled) := ⟨rfl, rfl, rfl, by decide +kernel, rfl, by decide +kernel, by decide +kernel⟩
theorem b_l_shuffled {P : Program} {w : World} {K : PySem.W.Frag} {mg : Str → Option Value} {base : Heap} (T : TX mg) (G_l_next : FnB P w K mg base 1 "_law_next" ["pool", "base"] [.pl, .rd] .fz S_l_next) {f : Addr} (cdv : Value) (A : Around) (outer : List Env) (s : Shared) (H : Hp) (E : XK) (hr : Room 1 (A.deeper (envOfC "_law_shuffled" (defScope s_l_shuffled) s.heap.objs.size f cdv))) :
    SSs (cxOf CX0 P w K mg base N_l_shuffled "_law_shuffled" (defScope s_l_shuffled) f cdv A outer s H E).nox k_l_shuffled [2, 3] .fz (defBody s_l_shuffled) (wb_l_shuffled S_l_next) :=
  (sss_cons (ss_setO (Me := []) (i := 2) sc_l_shuffled.nd rfl (by first | exact Or.inl rfl | exact Or.inr rfl) (se_lstRg1 (by rfl) T.b_list (by rfl) T.b_range (se_r (pv 1) rfl)) rfl)
      (sss_cons (ss_setO (Me := []) (i := 3) sc_l_shuffled.nd rfl (by first | exact Or.inl rfl | exact Or.inr rfl) (se_lst sa_nil) rfl)
      (sss_cons (ss_while (Me := []) PassesOwn.never (st_cmp (op_neD hr.units) od_ne (se_o (pv 2) rfl) (se_lst sa_nil) (nomark _)) (sss_one (ss_expr (Me := [2, 3]) (se_mut (Ma := [2]) PySem.F.slot_list_append PySem.F.type_list_append mt_append md_append (pv 3) (sa_cons (se_mut (Ma := []) PySem.F.slot_list_pop PySem.F.type_list_pop mt_popAt md_popAt (pv 2) (sa_cons (se_fn G_l_next hr (by rfl) (sa_cons (se_p (pv 0) rfl) (sa_cons (se_blt call_len_seq bd_len (by rfl) T.b_len bt_len (sa_cons (se_o (pv 2) rfl) sa_nil)) sa_nil))) sa_nil) (Or.inl rfl)) sa_nil) (Or.inl rfl)))))
      (sss_one (ss_retof (Me := []) (se_o (pv 3) rfl) rfl)))))
theorem g_l_shuffled {P : Program} {w : World} {K : PySem.W.Frag} {mg : Str → Option Value} {base : Heap} {f : Addr} {fd : FuncData} (T : TX mg) (G_l_next : FnB P w K mg base 1 "_law_next" ["pool", "base"] [.pl, .rd] .fz S_l_next) (F : Fun K "_law_shuffled" "_law_shuffled" s_l_shuffled f fd) (hm : mg "_law_shuffled" = some (.ref f)) : FnB P w K mg base 2 "_law_shuffled" ["pool", "many"] [.pl, .rd] .fz S_l_shuffled :=
  ⟨f, fd, fn_def [.pl, .rd] F sc_l_shuffled rfl rfl rfl (by first | exact .inl rfl | exact .inr rfl) (by intro i; match i with | i => exact noq (by decide) i) (b_l_shuffled T G_l_next) m_l_shuffled, hm, F.kp, F.binds fun _ _ _ _ _ _ us hl => match us, hl with | [_, _], _ => rfl⟩
abbrev s_l_pair : Stmt := topS 14
abbrev N_l_pair : List Str := ["a", "b"]
abbrev k_l_pair : List SK := [.r, .r]
theorem sc_l_pair : FnScope N_l_pair ["a", "b"] (defScope s_l_pair) := ⟨rfl, rfl, rfl, by decide +kernel, rfl, by decide +kernel, by decide +kernel⟩
theorem b_l_pair {P : Program} {w : World} {K : PySem.W.Frag} {mg : Str → Option Value} {base : Heap} (T : TX mg) {f : Addr} (cdv : Value) (A : Around) (outer : List Env) (s : Shared) (H : Hp) (E : XK) (hr : Room 0 (A.deeper (envOfC "_law_pair" (defScope s_l_pair) s.heap.objs.size f cdv))) :
    SSs (cxOf CX0 P w K mg base N_l_pair "_law_pair" (defScope s_l_pair) f cdv A outer s H E).nox k_l_pair [] .fz (defBody s_l_pair) (wb_l_pair) :=
  (sss_one (ss_ret (Me := []) (se_tup (sa_cons (se_blt (call_min2 rfl) bd_min2 (by rfl) T.b_min bt_min (sa_cons (se_r (pv 0) rfl) (sa_cons (se_r (pv 1) rfl) sa_nil))) (sa_cons (se_blt (call_max2 rfl) bd_max2 (by rfl) T.b_max bt_max (sa_cons (se_r (pv 0) rfl) (sa_cons (se_r (pv 1) rfl) sa_nil))) sa_nil)))))
theorem g_l_pair {P : Program} {w : World} {K : PySem.W.Frag} {mg : Str → Option Value} {base : Heap} {f : Addr} {fd : FuncData} (T : TX mg) (F : Fun K "_law_pair" "_law_pair" s_l_pair f fd) (hm : mg "_law_pair" = some (.ref f)) : FnB P w K mg base 1 "_law_pair" ["a", "b"] [.rd, .rd] .fz S_l_pair :=
  ⟨f, fd, fn_def [.rd, .rd] F sc_l_pair rfl rfl rfl (by first | exact .inl rfl | exact .inr rfl) (by intro i; match i with | i => exact noq (by decide) i) (b_l_pair T) m_l_pair, hm, F.kp, F.binds fun _ _ _ _ _ _ us hl => match us, hl with | [_, _], _ => rfl⟩
abbrev s_l_web : Stmt := topS 15
abbrev N_l_web : List Str := ["pool", "most", "room", "whole", "many", "share", "ties", "order", "k", "pairs", "b", "a"]
abbrev k_l_web : List SK := [.p, .r, .r, .r, .v, .v, .o, .v, .v, .o, .v, .v]
theorem sc_l_web : FnScope N_l_web ["pool", "most", "room", "whole"] (defScope s_l_web) := ⟨rfl, rfl, rfl, by decide +kernel, rfl, by decide +kernel, by decide +kernel⟩
theorem b_l_web {P : Program} {w : World} {K : PySem.W.Frag} {mg : Str → Option Value} {base : Heap} (T : TX mg) (G_l_next : FnB P w K mg base 1 "_law_next" ["pool", "base"] [.pl, .rd] .fz S_l_next) (G_l_shuffled : FnB P w K mg base 2 "_law_shuffled" ["pool", "many"] [.pl, .rd] .fz S_l_shuffled) (G_l_pair : FnB P w K mg base 1 "_law_pair" ["a", "b"] [.rd, .rd] .fz S_l_pair) {f : Addr} (cdv : Value) (A : Around) (outer : List Env) (s : Shared) (H : Hp) (E : XK) (hr : Room 2 (A.deeper (envOfC "_law_web" (defScope s_l_web) s.heap.objs.size f cdv))) :
    SSs (cxOf CX0 P w K mg base N_l_web "_law_web" (defScope s_l_web) f cdv A outer s H E).nox k_l_web [6, 9] .fz (defBody s_l_web) (wb_l_web S_l_next S_l_shuffled S_l_pair) :=
  (sss_cons (ss_set (Me := []) (i := 4) sc_l_web.nd rfl (by first | exact Or.inl rfl | exact Or.inr rfl) (se_bin op_addF od_add se_int (se_fn G_l_next hr (by rfl) (sa_cons (se_p (pv 0) rfl) (sa_cons (se_r (pv 1) rfl) sa_nil)))) rfl)
      (sss_cons (ss_set (Me := []) (i := 5) sc_l_web.nd rfl (by first | exact Or.inl rfl | exact Or.inr rfl) (se_ix ix_seq od_ix (se_lst (sa_cons se_int (sa_cons se_int (sa_cons se_int (sa_cons se_int (sa_cons se_int (sa_cons se_int sa_nil))))))) (se_fn G_l_next hr (by rfl) (sa_cons (se_p (pv 0) rfl) (sa_cons se_int sa_nil))) (fun _ _ => rfl)) rfl)
      (sss_cons (ss_setO (Me := []) (i := 6) sc_l_web.nd rfl (by first | exact Or.inl rfl | exact Or.inr rfl) se_dnewT rfl)
      (sss_cons (ss_set (Me := []) (i := 7) sc_l_web.nd rfl (by first | exact Or.inl rfl | exact Or.inr rfl) (se_fn G_l_shuffled hr (by rfl) (sa_cons (se_p (pv 0) rfl) (sa_cons (se_v (pv 4) rfl) sa_nil))) rfl)
      (sss_cons (ss_if (Me := []) (st_valR (se_r (pv 3) rfl)) (sss_one (ss_for (Me := []) PassesOwn.never rfl (si_rg2 (by rfl) T.b_range se_int (se_v (pv 4) rfl)) (sg_name (pg_name (i := 8) sc_l_web.nd rfl (by first | exact Or.inl rfl | exact Or.inr rfl)) rfl) (sss_one (ss_dputT (Me := []) (le65 (room65 hr)) (pv 6) se_bl (se_fn G_l_pair hr (by rfl) (sa_cons (se_ix ix_seq od_ix (se_v (pv 7) rfl) (se_v (pv 8) rfl) (fun _ _ => rfl)) (sa_cons (se_ix ix_seq od_ix (se_v (pv 7) rfl) (se_fn G_l_next hr (by rfl) (sa_cons (se_p (pv 0) rfl) (sa_cons (se_v (pv 8) rfl) sa_nil))) (fun _ _ => rfl)) sa_nil))) (Or.inl rfl) (hs := by rfl))))) sss_nil)
      (sss_cons (ss_if (Me := []) (SW.st (sw_and (st_cmp op_gt od_gt (se_v (pv 4) rfl) se_int (nomark _)) (sw_and (st_cmp op_le od_le (se_bin op_addF od_add (se_blt call_len_dT bd_lenT (by rfl) T.b_len bt_len (sa_cons (se_o (pv 6) rfl) sa_nil)) (se_v (pv 4) rfl)) (se_r (pv 2) rfl) (nomark _)) (sw_and1 (st_cmp (op_eqD hr.units) od_eq (se_fn G_l_next hr (by rfl) (sa_cons (se_p (pv 0) rfl) (sa_cons se_int sa_nil))) se_int (nomark _)))))) (sss_one (ss_for (Me := []) PassesOwn.never rfl (si_rg1 (by rfl) T.b_range (se_v (pv 4) rfl)) (sg_name (pg_name (i := 8) sc_l_web.nd rfl (by first | exact Or.inl rfl | exact Or.inr rfl)) rfl) (sss_one (ss_dputT (Me := []) (le65 (room65 hr)) (pv 6) se_bl (se_fn G_l_pair hr (by rfl) (sa_cons (se_ix ix_seq od_ix (se_v (pv 7) rfl) (se_v (pv 8) rfl) (fun _ _ => rfl)) (sa_cons (se_ix ix_seq od_ix (se_v (pv 7) rfl) (se_bin op_sub od_sub (se_v (pv 8) rfl) se_int) (fun _ _ => rfl)) sa_nil))) (Or.inl rfl) (hs := by rfl))))) sss_nil)
      (sss_cons (ss_setO (Me := []) (i := 9) sc_l_web.nd rfl (by first | exact Or.inl rfl | exact Or.inr rfl) (se_lst sa_nil) rfl)
      (sss_cons (ss_for (Me := []) PassesOwn.never rfl (si_rg1 (by rfl) T.b_range (se_v (pv 4) rfl)) (sg_name (pg_name (i := 10) sc_l_web.nd rfl (by first | exact Or.inl rfl | exact Or.inr rfl)) rfl) (sss_one (ss_expr (Me := [9]) (se_mut (Ma := []) PySem.F.slot_list_extend PySem.F.type_list_extend mt_extend md_extend (pv 9) (sa_cons (se_lc rfl sc_l_web.nd (si_rg1 (by rfl) T.b_range (se_v (pv 10) rfl)) (own := [("a", 11)]) (blkOk_by (by kernel_rfl)) (fun _ _ _ _ _ => (sg_name (pg_name (i := 11) sc_l_web.nd rfl (by first | exact Or.inl rfl | exact Or.inr rfl)) rfl)) (fun _ _ _ _ _ => sp_nil) (fun _ _ _ _ _ => (se_tup (sa_cons (se_v (pv 11) rfl) (sa_cons (se_v (pv 10) rfl) sa_nil))))) sa_nil) (Or.inl rfl)))))
      (sss_cons (SS.mono (ss_for (M := [6]) (Me := []) PassesOwn.never rfl (si_seq (se_fn G_l_shuffled hr (by rfl) (sa_cons (se_p (pv 0) rfl) (sa_cons (se_blt call_len_seq bd_len (by rfl) T.b_len bt_len (sa_cons (se_o (pv 9) rfl) sa_nil)) sa_nil)))) (sg_name (pg_name (i := 8) sc_l_web.nd rfl (by first | exact Or.inl rfl | exact Or.inr rfl)) rfl) (sss_one (ss_if (Me := []) (SW.st (sw_and (st_cmp (op_ltF hr.units0) od_lt (se_fn G_l_next hr (by rfl) (sa_cons (se_p (pv 0) rfl) (sa_cons se_int sa_nil))) (se_v (pv 5) rfl) (nomark _)) (sw_and1 (st_cmp (op_ltF hr.units0) od_lt (se_blt call_len_dT bd_lenT (by rfl) T.b_len bt_len (sa_cons (se_o (pv 6) rfl) sa_nil)) (se_r (pv 2) rfl) (nomark _))))) (sss_one (ss_dputT (Me := []) (le65 (room65 hr)) (pv 6) se_bl (se_ix ix_seq od_ix (se_o (pv 9) rfl) (se_v (pv 8) rfl) (fun _ _ => rfl)) (Or.inl rfl) (hs := by rfl))) sss_nil))))
      (sss_one (ss_ret (Me := []) (se_tup (sa_cons (se_v (pv 4) rfl) (sa_cons (se_bty call_tuple_of bd_tup (by rfl) T.b_tuple bt_tuple (sa_cons (se_sortKeysT rfl (pv 6) (Or.inl rfl) (by rfl) T.b_sorted) sa_nil)) sa_nil))))))))))))))
theorem g_l_web {P : Program} {w : World} {K : PySem.W.Frag} {mg : Str → Option Value} {base : Heap} {f : Addr} {fd : FuncData} (T : TX mg) (G_l_next : FnB P w K mg base 1 "_law_next" ["pool", "base"] [.pl, .rd] .fz S_l_next) (G_l_shuffled : FnB P w K mg base 2 "_law_shuffled" ["pool", "many"] [.pl, .rd] .fz S_l_shuffled) (G_l_pair : FnB P w K mg base 1 "_law_pair" ["a", "b"] [.rd, .rd] .fz S_l_pair) (F : Fun K "_law_web" "_law_web" s_l_web f fd) (hm : mg "_law_web" = some (.ref f)) : FnB P w K mg base 3 "_law_web" ["pool", "most", "room", "whole"] [.pl, .rd, .rd, .rd] .fz S_l_web :=
  ⟨f, fd, fn_def [.pl, .rd, .rd, .rd] F sc_l_web rfl rfl rfl (by first | exact .inl rfl | exact .inr rfl) (by intro i; match i with | i => exact noq (by decide) i) (b_l_web T G_l_next G_l_shuffled G_l_pair) m_l_web, hm, F.kp, F.binds fun _ _ _ _ _ _ us hl => match us, hl with | [_, _, _, _], _ => rfl⟩
abbrev s_l_turned : Stmt := topS 19
abbrev N_l_turned : List Str := ["pointing", "k"]
abbrev k_l_turned : List SK := [.r, .r]
theorem sc_l_turned : FnScope N_l_turned ["pointing", "k"] (defScope s_l_turned) := ⟨rfl, rfl, rfl, by decide +kernel, rfl, by decide +kernel, by decide +kernel⟩
theorem b_l_turned {P : Program} {w : World} {K : PySem.W.Frag} {mg : Str → Option Value} {base : Heap} (T : TX mg) {f : Addr} (cdv : Value) (A : Around) (outer : List Env) (s : Shared) (H : Hp) (E : XK) (hr : Room 0 (A.deeper (envOfC "_law_turned" (defScope s_l_turned) s.heap.objs.size f cdv))) :
    SSs (cxOf CX0 P w K mg base N_l_turned "_law_turned" (defScope s_l_turned) f cdv A outer s H E).nox k_l_turned [] .fz (defBody s_l_turned) (wb_l_turned) :=
  (sss_one (ss_ret (Me := []) (se_bin op_addF od_add (se_bin op_addF od_add (se_sl sl_F sd_F (se_r (pv 0) rfl) so_n (so_s (se_r (pv 1) rfl))) (se_tup (sa_cons (se_bin op_sub od_sub se_int (se_ix ix_seq od_ix (se_r (pv 0) rfl) (se_r (pv 1) rfl) (fun _ _ => rfl))) sa_nil))) (se_sl sl_F sd_F (se_r (pv 0) rfl) (so_s (se_bin op_addF od_add (se_r (pv 1) rfl) se_int)) so_n))))
theorem g_l_turned {P : Program} {w : World} {K : PySem.W.Frag} {mg : Str → Option Value} {base : Heap} {f : Addr} {fd : FuncData} (T : TX mg) (F : Fun K "_law_turned" "_law_turned" s_l_turned f fd) (hm : mg "_law_turned" = some (.ref f)) : FnB P w K mg base 1 "_law_turned" ["pointing", "k"] [.rd, .rd] .fz S_l_turned :=
  ⟨f, fd, fn_def [.rd, .rd] F sc_l_turned rfl rfl rfl (by first | exact .inl rfl | exact .inr rfl) (by intro i; match i with | i => exact noq (by decide) i) (b_l_turned T) m_l_turned, hm, F.kp, F.binds fun _ _ _ _ _ _ us hl => match us, hl with | [_, _], _ => rfl⟩
abbrev s_l_flows : Stmt := topS 17
abbrev N_l_flows : List Str := ["web", "pointing", "found", "k", "a", "b"]
abbrev k_l_flows : List SK := [.r, .r, .o, .v, .v, .v]
theorem sc_l_flows : FnScope N_l_flows ["web", "pointing"] (defScope s_l_flows) := ⟨rfl, rfl, rfl, by decide +kernel, rfl, by decide +kernel, by decide +kernel⟩
theorem b_l_flows {P : Program} {w : World} {K : PySem.W.Frag} {mg : Str → Option Value} {base : Heap} (T : TX mg) {f : Addr} (cdv : Value) (A : Around) (outer : List Env) (s : Shared) (H : Hp) (E : XK) (hr : Room 0 (A.deeper (envOfC "_law_flows" (defScope s_l_flows) s.heap.objs.size f cdv))) :
    SSs (cxOf CX0 P w K mg base N_l_flows "_law_flows" (defScope s_l_flows) f cdv A outer s H E).nox k_l_flows [2] .fz (defBody s_l_flows) (wb_l_flows) :=
  (sss_cons (ss_setO (Me := []) (i := 2) sc_l_flows.nd rfl (by first | exact Or.inl rfl | exact Or.inr rfl) (se_lst sa_nil) rfl)
      (sss_cons (ss_for (Me := []) PassesOwn.never rfl (si_enum (by rfl) T.b_enumerate (se_ix ix_seq od_ix (se_r (pv 0) rfl) se_int (fun _ _ => rfl))) (sg_tup rfl (sgs_cons (sg_name (pg_name (i := 3) sc_l_flows.nd rfl (by first | exact Or.inl rfl | exact Or.inr rfl)) rfl) (sgs_cons (sg_tup rfl (sgs_cons (sg_name (pg_name (i := 4) sc_l_flows.nd rfl (by first | exact Or.inl rfl | exact Or.inr rfl)) rfl) (sgs_cons (sg_name (pg_name (i := 5) sc_l_flows.nd rfl (by first | exact Or.inl rfl | exact Or.inr rfl)) rfl) sgs_nil))) sgs_nil))) (sss_one (ss_expr (Me := [2]) (se_mut (Ma := []) PySem.F.slot_list_append PySem.F.type_list_append mt_append md_append (pv 2) (sa_cons (se_ix ix_seq od_ix (se_lst (sa_cons (se_tup (sa_cons (se_v (pv 5) rfl) (sa_cons (se_v (pv 4) rfl) sa_nil))) (sa_cons (se_tup (sa_cons (se_v (pv 4) rfl) (sa_cons (se_v (pv 5) rfl) sa_nil))) sa_nil))) (se_ix ix_seq od_ix (se_r (pv 1) rfl) (se_v (pv 3) rfl) (fun _ _ => rfl)) (fun _ _ => rfl)) sa_nil) (Or.inl rfl)))))
      (sss_one (ss_retof (Me := []) (se_o (pv 2) rfl) rfl))))
theorem g_l_flows {P : Program} {w : World} {K : PySem.W.Frag} {mg : Str → Option Value} {base : Heap} {f : Addr} {fd : FuncData} (T : TX mg) (F : Fun K "_law_flows" "_law_flows" s_l_flows f fd) (hm : mg "_law_flows" = some (.ref f)) : FnB P w K mg base 1 "_law_flows" ["web", "pointing"] [.rd, .rd] .fz S_l_flows :=
  ⟨f, fd, fn_def [.rd, .rd] F sc_l_flows rfl rfl rfl (by first | exact .inl rfl | exact .inr rfl) (by intro i; match i with | i => exact noq (by decide) i) (b_l_flows T) m_l_flows, hm, F.kp, F.binds fun _ _ _ _ _ _ us hl => match us, hl with | [_, _], _ => rfl⟩
abbrev s_l_reached : Stmt := topS 20
abbrev N_l_reached : List Str := ["flows", "begin", "found", "at", "start", "end"]
abbrev k_l_reached : List SK := [.r, .v, .o, .v, .v, .v]
theorem sc_l_reached : FnScope N_l_reached ["flows", "begin"] (defScope s_l_reached) := ⟨rfl, rfl, rfl, by decide +kernel, rfl, by decide +kernel, by decide +kernel⟩
theorem b_l_reached {P : Program} {w : World} {K : PySem.W.Frag} {mg : Str → Option Value} {base : Heap} (T : TX mg) {f : Addr} (cdv : Value) (A : Around) (outer : List Env) (s : Shared) (H : Hp) (E : XK) (hr : Room 0 (A.deeper (envOfC "_law_reached" (defScope s_l_reached) s.heap.objs.size f cdv))) :
    SSs (cxOf CX0 P w K mg base N_l_reached "_law_reached" (defScope s_l_reached) f cdv A outer s H E).nox k_l_reached [2] .fz (defBody s_l_reached) (wb_l_reached) :=
  (sss_cons (ss_setO (Me := []) (i := 2) sc_l_reached.nd rfl (by first | exact Or.inl rfl | exact Or.inr rfl) (se_lst (sa_cons (se_v (pv 1) rfl) sa_nil)) rfl)
      (sss_cons (ss_set (Me := []) (i := 3) sc_l_reached.nd rfl (by first | exact Or.inl rfl | exact Or.inr rfl) se_int rfl)
      (sss_cons (ss_while (Me := []) PassesOwn.never (st_cmp (op_ltF hr.units0) od_lt (se_v (pv 3) rfl) (se_blt call_len_seq bd_len (by rfl) T.b_len bt_len (sa_cons (se_o (pv 2) rfl) sa_nil)) (nomark _)) (sss_cons (ss_for (Me := []) PassesOwn.never rfl (si_seq (se_r (pv 0) rfl)) (sg_tup rfl (sgs_cons (sg_name (pg_name (i := 4) sc_l_reached.nd rfl (by first | exact Or.inl rfl | exact Or.inr rfl)) rfl) (sgs_cons (sg_name (pg_name (i := 5) sc_l_reached.nd rfl (by first | exact Or.inl rfl | exact Or.inr rfl)) rfl) sgs_nil))) (sss_one (ss_if (Me := []) (SW.st (sw_and (st_cmp (op_eqD hr.units) od_eq (se_v (pv 4) rfl) (se_ix ix_seq od_ix (se_o (pv 2) rfl) (se_v (pv 3) rfl) (fun _ _ => rfl)) (nomark _)) (sw_and1 (st_cmp (op_notInF (room65 hr)) od_notIn (se_v (pv 5) rfl) (se_o (pv 2) rfl) (by with_unfolding_all rfl))))) (sss_one (ss_expr (Me := [2]) (se_mut (Ma := []) PySem.F.slot_list_append PySem.F.type_list_append mt_append md_append (pv 2) (sa_cons (se_v (pv 5) rfl) sa_nil) (Or.inl rfl)))) sss_nil)))
      (sss_one (ss_set (Me := []) (i := 3) sc_l_reached.nd rfl (by first | exact Or.inl rfl | exact Or.inr rfl) (se_bin op_addF od_add (se_v (pv 3) rfl) se_int) rfl))))
      (sss_one (ss_retof (Me := []) (se_o (pv 2) rfl) rfl)))))
theorem g_l_reached {P : Program} {w : World} {K : PySem.W.Frag} {mg : Str → Option Value} {base : Heap} {f : Addr} {fd : FuncData} (T : TX mg) (F : Fun K "_law_reached" "_law_reached" s_l_reached f fd) (hm : mg "_law_reached" = some (.ref f)) : FnB P w K mg base 1 "_law_reached" ["flows", "begin"] [.rd, .fz] .fz S_l_reached :=
  ⟨f, fd, fn_def [.rd, .fz] F sc_l_reached rfl rfl rfl (by first | exact .inl rfl | exact .inr rfl) (by intro i; match i with | i => exact noq (by decide) i) (b_l_reached T) m_l_reached, hm, F.kp, F.binds fun _ _ _ _ _ _ us hl => match us, hl with | [_, _], _ => rfl⟩
abbrev s_l_free : Stmt := topS 21
abbrev N_l_free : List Str := ["web", "fall", "flows", "found", "k", "begin", "end"]
abbrev k_l_free : List SK := [.r, .r, .v, .o, .v, .v, .v]
theorem sc_l_free : FnScope N_l_free ["web", "fall"] (defScope s_l_free) := ⟨rfl, rfl, rfl, by decide +kernel, rfl, by decide +kernel, by decide +kernel⟩
theorem b_l_free {P : Program} {w : World} {K : PySem.W.Frag} {mg : Str → Option Value} {base : Heap} (T : TX mg) (G_l_flows : FnB P w K mg base 1 "_law_flows" ["web", "pointing"] [.rd, .rd] .fz S_l_flows) (G_l_reached : FnB P w K mg base 1 "_law_reached" ["flows", "begin"] [.rd, .fz] .fz S_l_reached) {f : Addr} (cdv : Value) (A : Around) (outer : List Env) (s : Shared) (H : Hp) (E : XK) (hr : Room 1 (A.deeper (envOfC "_law_free" (defScope s_l_free) s.heap.objs.size f cdv))) :
    SSs (cxOf CX0 P w K mg base N_l_free "_law_free" (defScope s_l_free) f cdv A outer s H E).nox k_l_free [3] .fz (defBody s_l_free) (wb_l_free S_l_flows S_l_reached) :=
  (sss_cons (ss_set (Me := []) (i := 2) sc_l_free.nd rfl (by first | exact Or.inl rfl | exact Or.inr rfl) (se_fn G_l_flows hr (by rfl) (sa_cons (se_r (pv 0) rfl) (sa_cons (se_r (pv 1) rfl) sa_nil))) rfl)
      (sss_cons (ss_setO (Me := []) (i := 3) sc_l_free.nd rfl (by first | exact Or.inl rfl | exact Or.inr rfl) (se_lst sa_nil) rfl)
      (sss_cons (ss_for (Me := []) PassesOwn.never rfl (si_enum (by rfl) T.b_enumerate (se_v (pv 2) rfl)) (sg_tup rfl (sgs_cons (sg_name (pg_name (i := 4) sc_l_free.nd rfl (by first | exact Or.inl rfl | exact Or.inr rfl)) rfl) (sgs_cons (sg_tup rfl (sgs_cons (sg_name (pg_name (i := 5) sc_l_free.nd rfl (by first | exact Or.inl rfl | exact Or.inr rfl)) rfl) (sgs_cons (sg_name (pg_name (i := 6) sc_l_free.nd rfl (by first | exact Or.inl rfl | exact Or.inr rfl)) rfl) sgs_nil))) sgs_nil))) (sss_one (ss_if (Me := []) (st_cmp (op_notInF (room65 hr)) od_notIn (se_v (pv 6) rfl) (se_fn G_l_reached hr (by rfl) (sa_cons (se_bin op_addF od_add (se_sl sl_F sd_F (se_v (pv 2) rfl) so_n (so_s (se_v (pv 4) rfl))) (se_sl sl_F sd_F (se_v (pv 2) rfl) (so_s (se_bin op_addF od_add (se_v (pv 4) rfl) se_int)) so_n)) (sa_cons (se_v (pv 5) rfl) sa_nil))) (by with_unfolding_all rfl)) (sss_one (ss_expr (Me := [3]) (se_mut (Ma := []) PySem.F.slot_list_append PySem.F.type_list_append mt_append md_append (pv 3) (sa_cons (se_v (pv 4) rfl) sa_nil) (Or.inl rfl)))) sss_nil)))
      (sss_one (ss_retof (Me := []) (se_o (pv 3) rfl) rfl)))))
theorem g_l_free {P : Program} {w : World} {K : PySem.W.Frag} {mg : Str → Option Value} {base : Heap} {f : Addr} {fd : FuncData} (T : TX mg) (G_l_flows : FnB P w K mg base 1 "_law_flows" ["web", "pointing"] [.rd, .rd] .fz S_l_flows) (G_l_reached : FnB P w K mg base 1 "_law_reached" ["flows", "begin"] [.rd, .fz] .fz S_l_reached) (F : Fun K "_law_free" "_law_free" s_l_free f fd) (hm : mg "_law_free" = some (.ref f)) : FnB P w K mg base 2 "_law_free" ["web", "fall"] [.rd, .rd] .fz S_l_free :=
  ⟨f, fd, fn_def [.rd, .rd] F sc_l_free rfl rfl rfl (by first | exact .inl rfl | exact .inr rfl) (by intro i; match i with | i => exact noq (by decide) i) (b_l_free T G_l_flows G_l_reached) m_l_free, hm, F.kp, F.binds fun _ _ _ _ _ _ us hl => match us, hl with | [_, _], _ => rfl⟩
abbrev s_l_made_road : Stmt := topS 24
abbrev N_l_made_road : List Str := ["pool", "web", "one", "other", "row", "here", "some", "k", "back"]
abbrev k_l_made_road : List SK := [.p, .r, .v, .r, .o, .v, .v, .v, .v]
theorem sc_l_made_road : FnScope N_l_made_road ["pool", "web", "one", "other"] (defScope s_l_made_road) := ⟨rfl, rfl, rfl, by decide +kernel, rfl, by decide +kernel, by decide +kernel⟩
theorem b_l_made_road {P : Program} {w : World} {K : PySem.W.Frag} {mg : Str → Option Value} {base : Heap} (T : TX mg) (G_l_free : FnB P w K mg base 2 "_law_free" ["web", "fall"] [.rd, .rd] .fz S_l_free) (G_l_next : FnB P w K mg base 1 "_law_next" ["pool", "base"] [.pl, .rd] .fz S_l_next) (G_l_turned : FnB P w K mg base 1 "_law_turned" ["pointing", "k"] [.rd, .rd] .fz S_l_turned) {f : Addr} (cdv : Value) (A : Around) (outer : List Env) (s : Shared) (H : Hp) (E : XK) (hr : Room 2 (A.deeper (envOfC "_law_made_road" (defScope s_l_made_road) s.heap.objs.size f cdv))) :
    SSs (cxOf CX0 P w K mg base N_l_made_road "_law_made_road" (defScope s_l_made_road) f cdv A outer s H E).nox k_l_made_road [4] .fz (defBody s_l_made_road) (wb_l_made_road S_l_free S_l_next S_l_turned) :=
  (sss_cons (ss_setO (Me := []) (i := 4) sc_l_made_road.nd rfl (by first | exact Or.inl rfl | exact Or.inr rfl) (se_lst sa_nil) rfl)
      (sss_cons (ss_set (Me := []) (i := 5) sc_l_made_road.nd rfl (by first | exact Or.inl rfl | exact Or.inr rfl) (se_v (pv 2) rfl) rfl)
      (sss_cons (ss_while (Me := []) PassesOwn.never (st_cmp (op_neD hr.units) od_ne (se_v (pv 5) rfl) (se_r (pv 3) rfl) (nomark _)) (sss_cons (ss_lcV (M := []) (i := 6) rfl sc_l_made_road.nd rfl rfl (sw_true rfl rfl rfl (by decide +kernel)) (si_seq (se_fn G_l_free hr (by rfl) (sa_cons (se_r (pv 1) rfl) (sa_cons (se_v (pv 5) rfl) sa_nil)))) (own := [("k", 7)]) (blkOk_by (by kernel_rfl)) (fun _ _ _ _ _ => (sg_name (pg_name (i := 7) sc_l_made_road.nd rfl (by first | exact Or.inl rfl | exact Or.inr rfl)) rfl)) (fun _ _ _ _ _ => (sp_one (st_cmp (op_neD hr.units) od_ne (se_ix ix_seq od_ix (se_v (pv 5) rfl) (se_v (pv 7) rfl) (fun _ _ => rfl)) (se_ix ix_seq od_ix (se_r (pv 3) rfl) (se_v (pv 7) rfl) (fun _ _ => rfl)) (nomark _)))) (fun _ _ _ _ _ => (se_v (pv 7) rfl)))
      (sss_cons (ss_set (Me := []) (i := 7) sc_l_made_road.nd rfl (by first | exact Or.inl rfl | exact Or.inr rfl) (se_ix ix_seq od_ix (se_v (pv 6) rfl) (se_fn G_l_next hr (by rfl) (sa_cons (se_p (pv 0) rfl) (sa_cons (se_blt call_len_seq bd_len (by rfl) T.b_len bt_len (sa_cons (se_v (pv 6) rfl) sa_nil)) sa_nil))) (fun _ _ => rfl)) rfl)
      (sss_cons (ss_if (Me := []) (SW.st (sw_and (st_cmp (op_ltF hr.units0) od_lt (se_blt call_len_seq bd_len (by rfl) T.b_len bt_len (sa_cons (se_o (pv 4) rfl) sa_nil)) se_int (nomark _)) (sw_and1 (st_cmp (op_eqD hr.units) od_eq (se_fn G_l_next hr (by rfl) (sa_cons (se_p (pv 0) rfl) (sa_cons se_int sa_nil))) se_int (nomark _))))) (sss_cons (ss_set (Me := []) (i := 6) sc_l_made_road.nd rfl (by first | exact Or.inl rfl | exact Or.inr rfl) (se_fn G_l_free hr (by rfl) (sa_cons (se_r (pv 1) rfl) (sa_cons (se_v (pv 5) rfl) sa_nil))) rfl)
      (sss_cons (ss_set (Me := []) (i := 8) sc_l_made_road.nd rfl (by first | exact Or.inl rfl | exact Or.inr rfl) (se_ix ix_seq od_ix (se_v (pv 6) rfl) (se_fn G_l_next hr (by rfl) (sa_cons (se_p (pv 0) rfl) (sa_cons (se_blt call_len_seq bd_len (by rfl) T.b_len bt_len (sa_cons (se_v (pv 6) rfl) sa_nil)) sa_nil))) (fun _ _ => rfl)) rfl)
      (sss_one (ss_expr (Me := [4]) (se_mut (Ma := []) PySem.F.slot_list_extend PySem.F.type_list_extend mt_extend md_extend (pv 4) (sa_cons (se_lst (sa_cons (se_v (pv 8) rfl) (sa_cons (se_v (pv 8) rfl) sa_nil))) sa_nil) (Or.inl rfl)))))) sss_nil)
      (sss_cons (ss_expr (Me := [4]) (se_mut (Ma := []) PySem.F.slot_list_append PySem.F.type_list_append mt_append md_append (pv 4) (sa_cons (se_v (pv 7) rfl) sa_nil) (Or.inl rfl)))
      (sss_one (ss_set (Me := []) (i := 5) sc_l_made_road.nd rfl (by first | exact Or.inl rfl | exact Or.inr rfl) (se_fn G_l_turned hr (by rfl) (sa_cons (se_v (pv 5) rfl) (sa_cons (se_v (pv 7) rfl) sa_nil))) rfl)))))))
      (sss_one (ss_retof (Me := []) (se_o (pv 4) rfl) rfl)))))
theorem g_l_made_road {P : Program} {w : World} {K : PySem.W.Frag} {mg : Str → Option Value} {base : Heap} {f : Addr} {fd : FuncData} (T : TX mg) (G_l_free : FnB P w K mg base 2 "_law_free" ["web", "fall"] [.rd, .rd] .fz S_l_free) (G_l_next : FnB P w K mg base 1 "_law_next" ["pool", "base"] [.pl, .rd] .fz S_l_next) (G_l_turned : FnB P w K mg base 1 "_law_turned" ["pointing", "k"] [.rd, .rd] .fz S_l_turned) (F : Fun K "_law_made_road" "_law_made_road" s_l_made_road f fd) (hm : mg "_law_made_road" = some (.ref f)) : FnB P w K mg base 3 "_law_made_road" ["pool", "web", "one", "other"] [.pl, .rd, .fz, .rd] .fz S_l_made_road :=
  ⟨f, fd, fn_def [.pl, .rd, .fz, .rd] F sc_l_made_road rfl rfl rfl (by first | exact .inl rfl | exact .inr rfl) (by intro i; match i with | i => exact noq (by decide) i) (b_l_made_road T G_l_free G_l_next G_l_turned) m_l_made_road, hm, F.kp, F.binds fun _ _ _ _ _ _ us hl => match us, hl with | [_, _, _, _], _ => rfl⟩
abbrev s_l_some_otherwise : Stmt := topS 25
abbrev N_l_some_otherwise : List Str := ["pool", "row", "names", "found", "turn", "at", "name", "rest", "drawn_row", "k"]
abbrev k_l_some_otherwise : List SK := [.p, .v, .r, .o, .v, .v, .v, .v, .f, .v]
theorem sc_l_some_otherwise : FnScope N_l_some_otherwise ["pool", "row", "names"] (defScope s_l_some_otherwise) := ⟨rfl, rfl, rfl, by decide +kernel, rfl, by decide +kernel, by decide +kernel⟩
theorem b_l_some_otherwise {P : Program} {w : World} {K : PySem.W.Frag} {mg : Str → Option Value} {base : Heap} (T : TX mg) (G_l_next : FnB P w K mg base 1 "_law_next" ["pool", "base"] [.pl, .rd] .fz S_l_next) {f : Addr} (cdv : Value) (A : Around) (outer : List Env) (s : Shared) (H : Hp) (E : XK) (hr : Room 1 (A.deeper (envOfC "_law_some_otherwise" (defScope s_l_some_otherwise) s.heap.objs.size f cdv))) :
    SSs (cxOf CX0 P w K mg base N_l_some_otherwise "_law_some_otherwise" (defScope s_l_some_otherwise) f cdv A outer s H E).nox k_l_some_otherwise [3, 8] .nw (defBody s_l_some_otherwise) (wb_l_some_otherwise S_l_next) :=
  (sss_cons (ss_setO (Me := []) (i := 3) sc_l_some_otherwise.nd rfl (by first | exact Or.inl rfl | exact Or.inr rfl) (se_lst (sa_cons (se_v (pv 1) rfl) sa_nil)) rfl)
      (sss_cons (ss_for (Me := []) PassesOwn.never rfl (si_rg1 (by rfl) T.b_range se_int) (sg_name (pg_name (i := 4) sc_l_some_otherwise.nd rfl (by first | exact Or.inl rfl | exact Or.inr rfl)) rfl) (sss_cons (ss_set (Me := []) (i := 5) sc_l_some_otherwise.nd rfl (by first | exact Or.inl rfl | exact Or.inr rfl) (se_fn G_l_next hr (by rfl) (sa_cons (se_p (pv 0) rfl) (sa_cons (se_bin op_addF od_add (se_blt call_len_seq bd_len (by rfl) T.b_len bt_len (sa_cons (se_v (pv 1) rfl) sa_nil)) se_int) sa_nil))) rfl)
      (sss_cons (ss_set (Me := []) (i := 6) sc_l_some_otherwise.nd rfl (by first | exact Or.inl rfl | exact Or.inr rfl) (se_ix ix_seq od_ix (se_r (pv 2) rfl) (se_fn G_l_next hr (by rfl) (sa_cons (se_p (pv 0) rfl) (sa_cons (se_blt call_len_seq bd_len (by rfl) T.b_len bt_len (sa_cons (se_r (pv 2) rfl) sa_nil)) sa_nil))) (fun _ _ => rfl)) rfl)
      (sss_cons (ss_set (Me := []) (i := 7) sc_l_some_otherwise.nd rfl (by first | exact Or.inl rfl | exact Or.inr rfl) (se_sl sl_F sd_F (se_v (pv 1) rfl) (so_s (se_bin op_addF od_add (se_v (pv 5) rfl) (se_fn G_l_next hr (by rfl) (sa_cons (se_p (pv 0) rfl) (sa_cons se_int sa_nil))))) so_n) rfl)
      (sss_one (ss_expr (Me := [3]) (se_mut (Ma := []) PySem.F.slot_list_append PySem.F.type_list_append mt_append md_append (pv 3) (sa_cons (se_bin op_addF od_add (se_bin op_addF od_add (se_sl sl_F sd_F (se_v (pv 1) rfl) so_n (so_s (se_v (pv 5) rfl))) (se_bin op_repR od_rep (se_lst (sa_cons (se_v (pv 6) rfl) sa_nil)) (se_fn G_l_next hr (by rfl) (sa_cons (se_p (pv 0) rfl) (sa_cons se_int sa_nil))))) (se_v (pv 7) rfl)) sa_nil) (Or.inl rfl))))))))
      (sss_cons (ss_setF (Me := []) (i := 8) sc_l_some_otherwise.nd rfl (by first | exact Or.inl rfl | exact Or.inr rfl) (se_lst sa_nil) rfl)
      (sss_cons (ss_asO 8 rfl (ss_for (Me := []) PassesOwn.never rfl (si_rg1 (by rfl) T.b_range (se_fn G_l_next hr (by rfl) (sa_cons (se_p (pv 0) rfl) (sa_cons se_int sa_nil)))) (sg_name (pg_name (i := 9) sc_l_some_otherwise.nd rfl (by first | exact Or.inl rfl | exact Or.inr rfl)) rfl) (sss_one (ss_expr (Me := [8]) (se_mut (Ma := []) PySem.F.slot_list_append PySem.F.type_list_append mt_append md_append (pv 8) (sa_cons (se_ix ix_seq od_ix (se_r (pv 2) rfl) (se_fn G_l_next hr (by rfl) (sa_cons (se_p (pv 0) rfl) (sa_cons (se_blt call_len_seq bd_len (by rfl) T.b_len bt_len (sa_cons (se_r (pv 2) rfl) sa_nil)) sa_nil))) (fun _ _ => rfl)) sa_nil) (Or.inl rfl))))))
      (sss_one (ss_frz 8 rfl (ss_asV 8 rfl (ss_retw (Me := []) (se_bin op_catR od_addL (se_o (pv 3) rfl) (se_lst (sa_cons (se_v (pv 8) rfl) sa_nil)))))))))))
theorem g_l_some_otherwise {P : Program} {w : World} {K : PySem.W.Frag} {mg : Str → Option Value} {base : Heap} {f : Addr} {fd : FuncData} (T : TX mg) (G_l_next : FnB P w K mg base 1 "_law_next" ["pool", "base"] [.pl, .rd] .fz S_l_next) (F : Fun K "_law_some_otherwise" "_law_some_otherwise" s_l_some_otherwise f fd) (hm : mg "_law_some_otherwise" = some (.ref f)) : FnB P w K mg base 2 "_law_some_otherwise" ["pool", "row", "names"] [.pl, .fz, .rd] .nw S_l_some_otherwise :=
  ⟨f, fd, fn_def [.pl, .fz, .rd] F sc_l_some_otherwise rfl rfl rfl (by first | exact .inl rfl | exact .inr rfl) (by intro i; match i with | i => exact noq (by decide) i) (b_l_some_otherwise T G_l_next) m_l_some_otherwise, hm, F.kp, F.binds fun _ _ _ _ _ _ us hl => match us, hl with | [_, _, _], _ => rfl⟩
abbrev s_turned : Stmt := topS 7
abbrev N_turned : List Str := ["web", "pointing", "k"]
abbrev k_turned : List SK := [.r, .r, .r]
theorem sc_turned : FnScope N_turned ["web", "pointing", "k"] (defScope s_turned) := ⟨rfl, rfl, rfl, by decide +kernel, rfl, by decide +kernel, by decide +kernel⟩
theorem b_turned {P : Program} {w : World} {K : PySem.W.Frag} {mg : Str → Option Value} {base : Heap} (T : TX mg) {f : Addr} (cdv : Value) (A : Around) (outer : List Env) (s : Shared) (H : Hp) (E : XK) (hr : Room 0 (A.deeper (envOfC "turned" (defScope s_turned) s.heap.objs.size f cdv))) :
    SSs (cxOf CX0 P w K mg base N_turned "turned" (defScope s_turned) f cdv A outer s H E).nox k_turned [] .fz (defBody s_turned) (wb_turned) :=
  (sss_one (ss_ret (Me := []) (se_bin op_addF od_add (se_bin op_addF od_add (se_sl sl_F sd_F (se_r (pv 1) rfl) so_n (so_s (se_r (pv 2) rfl))) (se_tup (sa_cons (se_bin op_sub od_sub se_int (se_ix ix_seq od_ix (se_r (pv 1) rfl) (se_r (pv 2) rfl) (fun _ _ => rfl))) sa_nil))) (se_sl sl_F sd_F (se_r (pv 1) rfl) (so_s (se_bin op_addF od_add (se_r (pv 2) rfl) se_int)) so_n))))
theorem g_turned {P : Program} {w : World} {K : PySem.W.Frag} {mg : Str → Option Value} {base : Heap} {f : Addr} {fd : FuncData} (T : TX mg) (F : Fun K "turned" "turned" s_turned f fd) (hm : mg "turned" = some (.ref f)) : FnB P w K mg base 1 "turned" ["web", "pointing", "k"] [.rd, .rd, .rd] .fz S_turned :=
  ⟨f, fd, fn_def [.rd, .rd, .rd] F sc_turned rfl rfl rfl (by first | exact .inl rfl | exact .inr rfl) (by intro i; match i with | i => exact noq (by decide) i) (b_turned T) m_turned, hm, F.kp, F.binds fun _ _ _ _ _ _ us hl => match us, hl with | [_, _, _], _ => rfl⟩
abbrev s_arrows : Stmt := topS 1
abbrev N_arrows : List Str := ["web", "pointing", "tie", "number"]
abbrev k_arrows : List SK := [.r, .r, .v, .v]
theorem sc_arrows : FnScope N_arrows ["web", "pointing"] (defScope s_arrows) := ⟨rfl, rfl, rfl, by decide +kernel, rfl, by decide +kernel, by decide +kernel⟩
theorem b_arrows {P : Program} {w : World} {K : PySem.W.Frag} {mg : Str → Option Value} {base : Heap} (T : TX mg) {f : Addr} (cdv : Value) (A : Around) (outer : List Env) (s : Shared) (H : Hp) (E : XK) (hr : Room 0 (A.deeper (envOfC "arrows" (defScope s_arrows) s.heap.objs.size f cdv))) :
    SSs (cxOf CX0 P w K mg base N_arrows "arrows" (defScope s_arrows) f cdv A outer s H E).nox k_arrows [] .fz (defBody s_arrows) (wb_arrows) :=
  (sss_one (ss_ret (Me := []) (SE.nf (se_lc rfl sc_arrows.nd (si_zip (by rfl) T.b_zip (se_ix ix_seq od_ix (se_r (pv 0) rfl) se_int (fun _ _ => rfl)) (se_r (pv 1) rfl)) (own := [("tie", 2), ("number", 3)]) (blkOk_by (by kernel_rfl)) (fun _ _ _ _ _ => (sg_tup rfl (sgs_cons (sg_name (pg_name (i := 2) sc_arrows.nd rfl (by first | exact Or.inl rfl | exact Or.inr rfl)) rfl) (sgs_cons (sg_name (pg_name (i := 3) sc_arrows.nd rfl (by first | exact Or.inl rfl | exact Or.inr rfl)) rfl) sgs_nil)))) (fun _ _ _ _ _ => sp_nil) (fun _ _ _ _ _ => (se_tup (sa_cons (se_ix ix_seq od_ix (se_v (pv 2) rfl) (se_bin op_sub od_sub se_int (se_v (pv 3) rfl)) (fun _ _ => rfl)) (sa_cons (se_ix ix_seq od_ix (se_v (pv 2) rfl) (se_v (pv 3) rfl) (fun _ _ => rfl)) sa_nil))))))))
theorem g_arrows {P : Program} {w : World} {K : PySem.W.Frag} {mg : Str → Option Value} {base : Heap} {f : Addr} {fd : FuncData} (T : TX mg) (F : Fun K "arrows" "arrows" s_arrows f fd) (hm : mg "arrows" = some (.ref f)) : FnB P w K mg base 1 "arrows" ["web", "pointing"] [.rd, .rd] .fz S_arrows :=
  ⟨f, fd, fn_def [.rd, .rd] F sc_arrows rfl rfl rfl (by first | exact .inl rfl | exact .inr rfl) (by intro i; match i with | i => exact noq (by decide) i) (b_arrows T) m_arrows, hm, F.kp, F.binds fun _ _ _ _ _ _ us hl => match us, hl with | [_, _], _ => rfl⟩
abbrev s_before : Stmt := topS 2
abbrev N_before : List Str := ["some", "place", "left", "one", "other"]
abbrev k_before : List SK := [.r, .r, .r, .v, .v]
theorem sc_before : FnScope N_before ["some", "place", "left"] (defScope s_before) := ⟨rfl, rfl, rfl, by decide +kernel, rfl, by decide +kernel, by decide +kernel⟩
theorem b_before {P : Program} {w : World} {K : PySem.W.Frag} {mg : Str → Option Value} {base : Heap} (T : TX mg) {f : Addr} (cdv : Value) (A : Around) (outer : List Env) (s : Shared) (H : Hp) (E : XK) (hr : Room 0 (A.deeper (envOfC "before" (defScope s_before) s.heap.objs.size f cdv))) :
    SSs (cxOf CX0 P w K mg base N_before "before" (defScope s_before) f cdv A outer s H E).nox k_before [] .fz (defBody s_before) (wb_before) :=
  (sss_one (ss_ret (Me := []) (SE.nf (se_lc rfl sc_before.nd (si_seq (se_r (pv 0) rfl)) (own := [("one", 3), ("other", 4)]) (blkOk_by (by kernel_rfl)) (fun _ _ _ _ _ => (sg_tup rfl (sgs_cons (sg_name (pg_name (i := 3) sc_before.nd rfl (by first | exact Or.inl rfl | exact Or.inr rfl)) rfl) (sgs_cons (sg_name (pg_name (i := 4) sc_before.nd rfl (by first | exact Or.inl rfl | exact Or.inr rfl)) rfl) sgs_nil)))) (fun _ _ _ _ _ => (sp_one (SW.st (sw_and (st_cmp (op_eqD hr.units) od_eq (se_v (pv 4) rfl) (se_r (pv 1) rfl) (nomark _)) (sw_and1 (st_cmp (op_inF (room65 hr)) od_in (se_v (pv 3) rfl) (se_r (pv 2) rfl) (by with_unfolding_all rfl))))))) (fun _ _ _ _ _ => (se_v (pv 3) rfl))))))
theorem g_before {P : Program} {w : World} {K : PySem.W.Frag} {mg : Str → Option Value} {base : Heap} {f : Addr} {fd : FuncData} (T : TX mg) (F : Fun K "before" "before" s_before f fd) (hm : mg "before" = some (.ref f)) : FnB P w K mg base 1 "before" ["some", "place", "left"] [.rd, .rd, .rd] .fz S_before :=
  ⟨f, fd, fn_def [.rd, .rd, .rd] F sc_before rfl rfl rfl (by first | exact .inl rfl | exact .inr rfl) (by intro i; match i with | i => exact noq (by decide) i) (b_before T) m_before, hm, F.kp, F.binds fun _ _ _ _ _ _ us hl => match us, hl with | [_, _, _], _ => rfl⟩
abbrev s_round_in : Stmt := topS 3
abbrev N_round_in : List Str := ["some", "left", "way", "here"]
abbrev k_round_in : List SK := [.r, .r, .o, .v]
theorem sc_round_in : FnScope N_round_in ["some", "left"] (defScope s_round_in) := ⟨rfl, rfl, rfl, by decide +kernel, rfl, by decide +kernel, by decide +kernel⟩
theorem b_round_in {P : Program} {w : World} {K : PySem.W.Frag} {mg : Str → Option Value} {base : Heap} (T : TX mg) (G_before : FnB P w K mg base 1 "before" ["some", "place", "left"] [.rd, .rd, .rd] .fz S_before) {f : Addr} (cdv : Value) (A : Around) (outer : List Env) (s : Shared) (H : Hp) (E : XK) (hr : Room 1 (A.deeper (envOfC "round_in" (defScope s_round_in) s.heap.objs.size f cdv))) :
    SSs (cxOf CX0 P w K mg base N_round_in "round_in" (defScope s_round_in) f cdv A outer s H E).nox k_round_in [2] .fz (defBody s_round_in) (wb_round_in S_before) :=
  (sss_cons (ss_setO (Me := []) (i := 2) sc_round_in.nd rfl (by first | exact Or.inl rfl | exact Or.inr rfl) (se_lst sa_nil) rfl)
      (sss_cons (ss_set (Me := []) (i := 3) sc_round_in.nd rfl (by first | exact Or.inl rfl | exact Or.inr rfl) (se_ix ix_seq od_ix (se_r (pv 1) rfl) se_int (fun _ _ => rfl)) rfl)
      (sss_cons (ss_while (Me := []) PassesOwn.never (st_cmp (op_notInF (room65 hr)) od_notIn (se_v (pv 3) rfl) (se_o (pv 2) rfl) (by with_unfolding_all rfl)) (sss_cons (ss_expr (Me := [2]) (se_mut (Ma := []) PySem.F.slot_list_append PySem.F.type_list_append mt_append md_append (pv 2) (sa_cons (se_v (pv 3) rfl) sa_nil) (Or.inl rfl)))
      (sss_one (ss_set (Me := []) (i := 3) sc_round_in.nd rfl (by first | exact Or.inl rfl | exact Or.inr rfl) (se_ix ix_seq od_ix (se_fn G_before hr (by rfl) (sa_cons (se_r (pv 0) rfl) (sa_cons (se_v (pv 3) rfl) (sa_cons (se_r (pv 1) rfl) sa_nil)))) se_int (fun _ _ => rfl)) rfl))))
      (sss_one (ss_ret (Me := []) (se_tupRev rfl (by rfl) T.b_tuple (by rfl) T.b_reversed (se_sl sl_F sd_F (se_o (pv 2) rfl) (so_s (se_index (room65 hr) (se_o (pv 2) rfl) (se_v (pv 3) rfl))) so_n)))))))
theorem g_round_in {P : Program} {w : World} {K : PySem.W.Frag} {mg : Str → Option Value} {base : Heap} {f : Addr} {fd : FuncData} (T : TX mg) (G_before : FnB P w K mg base 1 "before" ["some", "place", "left"] [.rd, .rd, .rd] .fz S_before) (F : Fun K "round_in" "round_in" s_round_in f fd) (hm : mg "round_in" = some (.ref f)) : FnB P w K mg base 2 "round_in" ["some", "left"] [.rd, .rd] .fz S_round_in :=
  ⟨f, fd, fn_def [.rd, .rd] F sc_round_in rfl rfl rfl (by first | exact .inl rfl | exact .inr rfl) (by intro i; match i with | i => exact noq (by decide) i) (b_round_in T G_before) m_round_in, hm, F.kp, F.binds fun _ _ _ _ _ _ us hl => match us, hl with | [_, _], _ => rfl⟩
abbrev s_looked : Stmt := topS 4
abbrev N_looked : List Str := ["web", "pointing", "some", "left", "order", "open_ones", "place"]
abbrev k_looked : List SK := [.r, .r, .v, .o, .o, .v, .v]
theorem sc_looked : FnScope N_looked ["web", "pointing"] (defScope s_looked) := ⟨rfl, rfl, rfl, by decide +kernel, rfl, by decide +kernel, by decide +kernel⟩
theorem b_looked {P : Program} {w : World} {K : PySem.W.Frag} {mg : Str → Option Value} {base : Heap} (T : TX mg) (G_arrows : FnB P w K mg base 1 "arrows" ["web", "pointing"] [.rd, .rd] .fz S_arrows) (G_before : FnB P w K mg base 1 "before" ["some", "place", "left"] [.rd, .rd, .rd] .fz S_before) (G_round_in : FnB P w K mg base 2 "round_in" ["some", "left"] [.rd, .rd] .fz S_round_in) {f : Addr} (cdv : Value) (A : Around) (outer : List Env) (s : Shared) (H : Hp) (E : XK) (hr : Room 2 (A.deeper (envOfC "looked" (defScope s_looked) s.heap.objs.size f cdv))) :
    SSs (cxOf CX0 P w K mg base N_looked "looked" (defScope s_looked) f cdv A outer s H E).nox k_looked [3, 4] .fz (defBody s_looked) (wb_looked S_arrows S_before S_round_in) :=
  (sss_cons (ss_set (Me := []) (i := 2) sc_looked.nd rfl (by first | exact Or.inl rfl | exact Or.inr rfl) (se_fn G_arrows hr (by rfl) (sa_cons (se_r (pv 0) rfl) (sa_cons (se_r (pv 1) rfl) sa_nil))) rfl)
      (sss_cons (ss_setO (Me := []) (i := 3) sc_looked.nd rfl (by first | exact Or.inl rfl | exact Or.inr rfl) (se_lstRg1 (by rfl) T.b_list (by rfl) T.b_range (se_ix ix_seq od_ix (se_r (pv 0) rfl) se_int (fun _ _ => rfl))) rfl)
      (sss_cons (ss_setO (Me := []) (i := 4) sc_looked.nd rfl (by first | exact Or.inl rfl | exact Or.inr rfl) (se_lst sa_nil) rfl)
      (sss_cons (ss_while (Me := []) PassesOwn.never (st_cmp (op_neD hr.units) od_ne (se_o (pv 3) rfl) (se_lst sa_nil) (nomark _)) (sss_cons (ss_lcV (M := []) (i := 5) rfl sc_looked.nd rfl rfl (sw_true rfl rfl rfl (by decide +kernel)) (si_seq (se_o (pv 3) rfl)) (own := [("place", 6)]) (blkOk_by (by kernel_rfl)) (fun _ _ _ _ _ => (sg_name (pg_name (i := 6) sc_looked.nd rfl (by first | exact Or.inl rfl | exact Or.inr rfl)) rfl)) (fun _ _ _ _ _ => (sp_one (st_cmp (op_eqD hr.units) od_eq (se_fn G_before hr (by rfl) (sa_cons (se_v (pv 2) rfl) (sa_cons (se_v (pv 6) rfl) (sa_cons (se_o (pv 3) rfl) sa_nil)))) (se_lst sa_nil) (nomark _)))) (fun _ _ _ _ _ => (se_v (pv 6) rfl)))
      (sss_cons (ss_if (Me := []) (st_cmp (op_eqD hr.units) od_eq (se_v (pv 5) rfl) (se_lst sa_nil) (nomark _)) (sss_one (ss_ret (Me := []) (se_tup (sa_cons se_str (sa_cons (se_fn G_round_in hr (by rfl) (sa_cons (se_v (pv 2) rfl) (sa_cons (se_o (pv 3) rfl) sa_nil))) sa_nil))))) sss_nil)
      (sss_cons (ss_expr (Me := [4]) (se_mut (Ma := []) PySem.F.slot_list_append PySem.F.type_list_append mt_append md_append (pv 4) (sa_cons (se_ix ix_seq od_ix (se_v (pv 5) rfl) se_int (fun _ _ => rfl)) sa_nil) (Or.inl rfl)))
      (sss_one (ss_expr (Me := [3]) (se_mut (Ma := []) PySem.F.slot_list_remove PySem.F.type_list_remove mt_remove md_remove (pv 3) (sa_cons (se_ix ix_seq od_ix (se_v (pv 5) rfl) se_int (fun _ _ => rfl)) sa_nil) (Or.inl rfl))))))))
      (sss_one (ss_ret (Me := []) (se_tup (sa_cons se_str (sa_cons (se_bty call_tuple_of bd_tup (by rfl) T.b_tuple bt_tuple (sa_cons (se_o (pv 4) rfl) sa_nil)) sa_nil)))))))))
theorem g_looked {P : Program} {w : World} {K : PySem.W.Frag} {mg : Str → Option Value} {base : Heap} {f : Addr} {fd : FuncData} (T : TX mg) (G_arrows : FnB P w K mg base 1 "arrows" ["web", "pointing"] [.rd, .rd] .fz S_arrows) (G_before : FnB P w K mg base 1 "before" ["some", "place", "left"] [.rd, .rd, .rd] .fz S_before) (G_round_in : FnB P w K mg base 2 "round_in" ["some", "left"] [.rd, .rd] .fz S_round_in) (F : Fun K "looked" "looked" s_looked f fd) (hm : mg "looked" = some (.ref f)) : FnB P w K mg base 3 "looked" ["web", "pointing"] [.rd, .rd] .fz S_looked :=
  ⟨f, fd, fn_def [.rd, .rd] F sc_looked rfl rfl rfl (by first | exact .inl rfl | exact .inr rfl) (by intro i; match i with | i => exact noq (by decide) i) (b_looked T G_arrows G_before G_round_in) m_looked, hm, F.kp, F.binds fun _ _ _ _ _ _ us hl => match us, hl with | [_, _], _ => rfl⟩
abbrev s_is_fall : Stmt := topS 5
abbrev N_is_fall : List Str := ["web", "pointing"]
abbrev k_is_fall : List SK := [.r, .r]
theorem sc_is_fall : FnScope N_is_fall ["web", "pointing"] (defScope s_is_fall) := ⟨rfl, rfl, rfl, by decide +kernel, rfl, by decide +kernel, by decide +kernel⟩
theorem b_is_fall {P : Program} {w : World} {K : PySem.W.Frag} {mg : Str → Option Value} {base : Heap} (T : TX mg) (G_looked : FnB P w K mg base 3 "looked" ["web", "pointing"] [.rd, .rd] .fz S_looked) {f : Addr} (cdv : Value) (A : Around) (outer : List Env) (s : Shared) (H : Hp) (E : XK) (hr : Room 3 (A.deeper (envOfC "is_fall" (defScope s_is_fall) s.heap.objs.size f cdv))) :
    SSs (cxOf CX0 P w K mg base N_is_fall "is_fall" (defScope s_is_fall) f cdv A outer s H E).nox k_is_fall [] .fz (defBody s_is_fall) (wb_is_fall S_looked) :=
  (sss_one (ss_ret (Me := []) (se_cmp (op_eqD hr.units) od_eq (se_ix ix_seq od_ix (se_fn G_looked hr (by rfl) (sa_cons (se_r (pv 0) rfl) (sa_cons (se_r (pv 1) rfl) sa_nil))) se_int (fun _ _ => rfl)) se_str (nomark _))))
theorem g_is_fall {P : Program} {w : World} {K : PySem.W.Frag} {mg : Str → Option Value} {base : Heap} {f : Addr} {fd : FuncData} (T : TX mg) (G_looked : FnB P w K mg base 3 "looked" ["web", "pointing"] [.rd, .rd] .fz S_looked) (F : Fun K "is_fall" "is_fall" s_is_fall f fd) (hm : mg "is_fall" = some (.ref f)) : FnB P w K mg base 4 "is_fall" ["web", "pointing"] [.rd, .rd] .fz S_is_fall :=
  ⟨f, fd, fn_def [.rd, .rd] F sc_is_fall rfl rfl rfl (by first | exact .inl rfl | exact .inr rfl) (by intro i; match i with | i => exact noq (by decide) i) (b_is_fall T G_looked) m_is_fall, hm, F.kp, F.binds fun _ _ _ _ _ _ us hl => match us, hl with | [_, _], _ => rfl⟩
abbrev s_is_free : Stmt := topS 8
abbrev N_is_free : List Str := ["web", "fall", "k"]
abbrev k_is_free : List SK := [.r, .r, .r]
theorem sc_is_free : FnScope N_is_free ["web", "fall", "k"] (defScope s_is_free) := ⟨rfl, rfl, rfl, by decide +kernel, rfl, by decide +kernel, by decide +kernel⟩
theorem b_is_free {P : Program} {w : World} {K : PySem.W.Frag} {mg : Str → Option Value} {base : Heap} (T : TX mg) (G_is_fall : FnB P w K mg base 4 "is_fall" ["web", "pointing"] [.rd, .rd] .fz S_is_fall) (G_turned : FnB P w K mg base 1 "turned" ["web", "pointing", "k"] [.rd, .rd, .rd] .fz S_turned) {f : Addr} (cdv : Value) (A : Around) (outer : List Env) (s : Shared) (H : Hp) (E : XK) (hr : Room 4 (A.deeper (envOfC "is_free" (defScope s_is_free) s.heap.objs.size f cdv))) :
    SSs (cxOf CX0 P w K mg base N_is_free "is_free" (defScope s_is_free) f cdv A outer s H E).nox k_is_free [] .fz (defBody s_is_free) (wb_is_free S_is_fall S_turned) :=
  (sss_one (ss_ret (Me := []) (se_fn G_is_fall hr (by rfl) (sa_cons (se_r (pv 0) rfl) (sa_cons (se_fn G_turned hr (by rfl) (sa_cons (se_r (pv 0) rfl) (sa_cons (se_r (pv 1) rfl) (sa_cons (se_r (pv 2) rfl) sa_nil)))) sa_nil)))))
theorem g_is_free {P : Program} {w : World} {K : PySem.W.Frag} {mg : Str → Option Value} {base : Heap} {f : Addr} {fd : FuncData} (T : TX mg) (G_is_fall : FnB P w K mg base 4 "is_fall" ["web", "pointing"] [.rd, .rd] .fz S_is_fall) (G_turned : FnB P w K mg base 1 "turned" ["web", "pointing", "k"] [.rd, .rd, .rd] .fz S_turned) (F : Fun K "is_free" "is_free" s_is_free f fd) (hm : mg "is_free" = some (.ref f)) : FnB P w K mg base 5 "is_free" ["web", "fall", "k"] [.rd, .rd, .rd] .fz S_is_free :=
  ⟨f, fd, fn_def [.rd, .rd, .rd] F sc_is_free rfl rfl rfl (by first | exact .inl rfl | exact .inr rfl) (by intro i; match i with | i => exact noq (by decide) i) (b_is_free T G_is_fall G_turned) m_is_free, hm, F.kp, F.binds fun _ _ _ _ _ _ us hl => match us, hl with | [_, _, _], _ => rfl⟩
abbrev s_road_right : Stmt := topS 9
abbrev N_road_right : List Str := ["web", "one", "other", "row", "here", "k"]
abbrev k_road_right : List SK := [.r, .v, .r, .r, .v, .v]
theorem sc_road_right : FnScope N_road_right ["web", "one", "other", "row"] (defScope s_road_right) := ⟨rfl, rfl, rfl, by decide +kernel, rfl, by decide +kernel, by decide +kernel⟩
theorem b_road_right {P : Program} {w : World} {K : PySem.W.Frag} {mg : Str → Option Value} {base : Heap} (T : TX mg) (G_is_free : FnB P w K mg base 5 "is_free" ["web", "fall", "k"] [.rd, .rd, .rd] .fz S_is_free) (G_turned : FnB P w K mg base 1 "turned" ["web", "pointing", "k"] [.rd, .rd, .rd] .fz S_turned) {f : Addr} (cdv : Value) (A : Around) (outer : List Env) (s : Shared) (H : Hp) (E : XK) (hr : Room 5 (A.deeper (envOfC "road_right" (defScope s_road_right) s.heap.objs.size f cdv))) :
    SSs (cxOf CX0 P w K mg base N_road_right "road_right" (defScope s_road_right) f cdv A outer s H E).nox k_road_right [] .fz (defBody s_road_right) (wb_road_right S_is_free S_turned) :=
  (sss_cons (ss_set (Me := []) (i := 4) sc_road_right.nd rfl (by first | exact Or.inl rfl | exact Or.inr rfl) (se_v (pv 1) rfl) rfl)
      (sss_cons (ss_for (Me := []) PassesOwn.never rfl (si_seq (se_r (pv 3) rfl)) (sg_name (pg_name (i := 5) sc_road_right.nd rfl (by first | exact Or.inl rfl | exact Or.inr rfl)) rfl) (sss_cons (ss_if (Me := []) (SW.st (sw_or (st_cmp (op_ltF hr.units0) od_lt (se_v (pv 5) rfl) se_int (nomark _)) (sw_or (st_cmp op_ge od_ge (se_v (pv 5) rfl) (se_blt call_len_seq bd_len (by rfl) T.b_len bt_len (sa_cons (se_v (pv 1) rfl) sa_nil)) (nomark _)) (sw_or1 (st_not (st_val (se_fn G_is_free hr (by rfl) (sa_cons (se_r (pv 0) rfl) (sa_cons (se_v (pv 4) rfl) (sa_cons (se_v (pv 5) rfl) sa_nil)))))))))) (sss_one (ss_ret (Me := []) se_bl)) sss_nil)
      (sss_one (ss_set (Me := []) (i := 4) sc_road_right.nd rfl (by first | exact Or.inl rfl | exact Or.inr rfl) (se_fn G_turned hr (by rfl) (sa_cons (se_r (pv 0) rfl) (sa_cons (se_v (pv 4) rfl) (sa_cons (se_v (pv 5) rfl) sa_nil)))) rfl))))
      (sss_one (ss_ret (Me := []) (se_cmp (op_eqD hr.units) od_eq (se_v (pv 4) rfl) (se_r (pv 2) rfl) (nomark _))))))
theorem g_road_right {P : Program} {w : World} {K : PySem.W.Frag} {mg : Str → Option Value} {base : Heap} {f : Addr} {fd : FuncData} (T : TX mg) (G_is_free : FnB P w K mg base 5 "is_free" ["web", "fall", "k"] [.rd, .rd, .rd] .fz S_is_free) (G_turned : FnB P w K mg base 1 "turned" ["web", "pointing", "k"] [.rd, .rd, .rd] .fz S_turned) (F : Fun K "road_right" "road_right" s_road_right f fd) (hm : mg "road_right" = some (.ref f)) : FnB P w K mg base 6 "road_right" ["web", "one", "other", "row"] [.rd, .fz, .rd, .rd] .fz S_road_right :=
  ⟨f, fd, fn_def [.rd, .fz, .rd, .rd] F sc_road_right rfl rfl rfl (by first | exact .inl rfl | exact .inr rfl) (by intro i; match i with | i => exact noq (by decide) i) (b_road_right T G_is_free G_turned) m_road_right, hm, F.kp, F.binds fun _ _ _ _ _ _ us hl => match us, hl with | [_, _, _, _], _ => rfl⟩
abbrev s_l_fall : Stmt := topS 16
abbrev N_l_fall : List Str := ["pool", "web", "rank", "a", "b"]
abbrev k_l_fall : List SK := [.p, .r, .v, .v, .v]
theorem sc_l_fall : FnScope N_l_fall ["pool", "web"] (defScope s_l_fall) := ⟨rfl, rfl, rfl, by decide +kernel, rfl, by decide +kernel, by decide +kernel⟩
theorem b_l_fall {P : Program} {w : World} {K : PySem.W.Frag} {mg : Str → Option Value} {base : Heap} (T : TX mg) (G_l_shuffled : FnB P w K mg base 2 "_law_shuffled" ["pool", "many"] [.pl, .rd] .fz S_l_shuffled) {f : Addr} (cdv : Value) (A : Around) (outer : List Env) (s : Shared) (H : Hp) (E : XK) (hr : Room 2 (A.deeper (envOfC "_law_fall" (defScope s_l_fall) s.heap.objs.size f cdv))) :
    SSs (cxOf CX0 P w K mg base N_l_fall "_law_fall" (defScope s_l_fall) f cdv A outer s H E).nox k_l_fall [] .fz (defBody s_l_fall) (wb_l_fall S_l_shuffled) :=
  (sss_cons (ss_set (Me := []) (i := 2) sc_l_fall.nd rfl (by first | exact Or.inl rfl | exact Or.inr rfl) (se_fn G_l_shuffled hr (by rfl) (sa_cons (se_p (pv 0) rfl) (sa_cons (se_ix ix_seq od_ix (se_r (pv 1) rfl) se_int (fun _ _ => rfl)) sa_nil))) rfl)
      (sss_one (ss_ret (Me := []) (se_bty call_tuple_of bd_tup (by rfl) T.b_tuple bt_tuple (sa_cons (se_lc rfl sc_l_fall.nd (si_seq (se_ix ix_seq od_ix (se_r (pv 1) rfl) se_int (fun _ _ => rfl))) (own := [("a", 3), ("b", 4)]) (blkOk_by (by kernel_rfl)) (fun _ _ _ _ _ => (sg_tup rfl (sgs_cons (sg_name (pg_name (i := 3) sc_l_fall.nd rfl (by first | exact Or.inl rfl | exact Or.inr rfl)) rfl) (sgs_cons (sg_name (pg_name (i := 4) sc_l_fall.nd rfl (by first | exact Or.inl rfl | exact Or.inr rfl)) rfl) sgs_nil)))) (fun _ _ _ _ _ => sp_nil) (fun _ _ _ _ _ => (se_bty call_int1 bd_int (by rfl) T.b_int bt_int (sa_cons (se_cmp (op_ltF hr.units0) od_lt (se_ix ix_seq od_ix (se_v (pv 2) rfl) (se_v (pv 3) rfl) (fun _ _ => rfl)) (se_ix ix_seq od_ix (se_v (pv 2) rfl) (se_v (pv 4) rfl) (fun _ _ => rfl)) (nomark _)) sa_nil)))) sa_nil)))))
theorem g_l_fall {P : Program} {w : World} {K : PySem.W.Frag} {mg : Str → Option Value} {base : Heap} {f : Addr} {fd : FuncData} (T : TX mg) (G_l_shuffled : FnB P w K mg base 2 "_law_shuffled" ["pool", "many"] [.pl, .rd] .fz S_l_shuffled) (F : Fun K "_law_fall" "_law_fall" s_l_fall f fd) (hm : mg "_law_fall" = some (.ref f)) : FnB P w K mg base 3 "_law_fall" ["pool", "web"] [.pl, .rd] .fz S_l_fall :=
  ⟨f, fd, fn_def [.pl, .rd] F sc_l_fall rfl rfl rfl (by first | exact .inl rfl | exact .inr rfl) (by intro i; match i with | i => exact noq (by decide) i) (b_l_fall T G_l_shuffled) m_l_fall, hm, F.kp, F.binds fun _ _ _ _ _ _ us hl => match us, hl with | [_, _], _ => rfl⟩
abbrev s_l_there_and_back : Stmt := topS 26
abbrev N_l_there_and_back : List Str := ["pool", "web", "one", "row", "at", "here", "k", "some", "back"]
abbrev k_l_there_and_back : List SK := [.p, .r, .v, .r, .v, .v, .v, .v, .v]
theorem sc_l_there_and_back : FnScope N_l_there_and_back ["pool", "web", "one", "row"] (defScope s_l_there_and_back) := ⟨rfl, rfl, rfl, by decide +kernel, rfl, by decide +kernel, by decide +kernel⟩
theorem b_l_there_and_back {P : Program} {w : World} {K : PySem.W.Frag} {mg : Str → Option Value} {base : Heap} (T : TX mg) (G_l_next : FnB P w K mg base 1 "_law_next" ["pool", "base"] [.pl, .rd] .fz S_l_next) (G_l_turned : FnB P w K mg base 1 "_law_turned" ["pointing", "k"] [.rd, .rd] .fz S_l_turned) (G_l_free : FnB P w K mg base 2 "_law_free" ["web", "fall"] [.rd, .rd] .fz S_l_free) {f : Addr} (cdv : Value) (A : Around) (outer : List Env) (s : Shared) (H : Hp) (E : XK) (hr : Room 2 (A.deeper (envOfC "_law_there_and_back" (defScope s_l_there_and_back) s.heap.objs.size f cdv))) :
    SSs (cxOf CX0 P w K mg base N_l_there_and_back "_law_there_and_back" (defScope s_l_there_and_back) f cdv A outer s H E).nox k_l_there_and_back [] .fz (defBody s_l_there_and_back) (wb_l_there_and_back S_l_next S_l_turned S_l_free) :=
  (sss_cons (ss_set (Me := []) (i := 4) sc_l_there_and_back.nd rfl (by first | exact Or.inl rfl | exact Or.inr rfl) (se_fn G_l_next hr (by rfl) (sa_cons (se_p (pv 0) rfl) (sa_cons (se_bin op_addF od_add (se_blt call_len_seq bd_len (by rfl) T.b_len bt_len (sa_cons (se_r (pv 3) rfl) sa_nil)) se_int) sa_nil))) rfl)
      (sss_cons (ss_set (Me := []) (i := 5) sc_l_there_and_back.nd rfl (by first | exact Or.inl rfl | exact Or.inr rfl) (se_v (pv 2) rfl) rfl)
      (sss_cons (ss_for (Me := []) PassesOwn.never rfl (si_seq (se_sl sl_F sd_F (se_r (pv 3) rfl) so_n (so_s (se_v (pv 4) rfl)))) (sg_name (pg_name (i := 6) sc_l_there_and_back.nd rfl (by first | exact Or.inl rfl | exact Or.inr rfl)) rfl) (sss_one (ss_set (Me := []) (i := 5) sc_l_there_and_back.nd rfl (by first | exact Or.inl rfl | exact Or.inr rfl) (se_fn G_l_turned hr (by rfl) (sa_cons (se_v (pv 5) rfl) (sa_cons (se_v (pv 6) rfl) sa_nil))) rfl)))
      (sss_cons (ss_set (Me := []) (i := 7) sc_l_there_and_back.nd rfl (by first | exact Or.inl rfl | exact Or.inr rfl) (se_fn G_l_free hr (by rfl) (sa_cons (se_r (pv 1) rfl) (sa_cons (se_v (pv 5) rfl) sa_nil))) rfl)
      (sss_cons (ss_set (Me := []) (i := 8) sc_l_there_and_back.nd rfl (by first | exact Or.inl rfl | exact Or.inr rfl) (se_ix ix_seq od_ix (se_v (pv 7) rfl) (se_fn G_l_next hr (by rfl) (sa_cons (se_p (pv 0) rfl) (sa_cons (se_blt call_len_seq bd_len (by rfl) T.b_len bt_len (sa_cons (se_v (pv 7) rfl) sa_nil)) sa_nil))) (fun _ _ => rfl)) rfl)
      (sss_one (ss_ret (Me := []) (se_bin op_addF od_add (se_bin op_addF od_add (se_sl sl_F sd_F (se_r (pv 3) rfl) so_n (so_s (se_v (pv 4) rfl))) (se_lst (sa_cons (se_v (pv 8) rfl) (sa_cons (se_v (pv 8) rfl) sa_nil)))) (se_sl sl_F sd_F (se_r (pv 3) rfl) (so_s (se_v (pv 4) rfl)) so_n)))))))))
theorem g_l_there_and_back {P : Program} {w : World} {K : PySem.W.Frag} {mg : Str → Option Value} {base : Heap} {f : Addr} {fd : FuncData} (T : TX mg) (G_l_next : FnB P w K mg base 1 "_law_next" ["pool", "base"] [.pl, .rd] .fz S_l_next) (G_l_turned : FnB P w K mg base 1 "_law_turned" ["pointing", "k"] [.rd, .rd] .fz S_l_turned) (G_l_free : FnB P w K mg base 2 "_law_free" ["web", "fall"] [.rd, .rd] .fz S_l_free) (F : Fun K "_law_there_and_back" "_law_there_and_back" s_l_there_and_back f fd) (hm : mg "_law_there_and_back" = some (.ref f)) : FnB P w K mg base 3 "_law_there_and_back" ["pool", "web", "one", "row"] [.pl, .rd, .fz, .rd] .fz S_l_there_and_back :=
  ⟨f, fd, fn_def [.pl, .rd, .fz, .rd] F sc_l_there_and_back rfl rfl rfl (by first | exact .inl rfl | exact .inr rfl) (by intro i; match i with | i => exact noq (by decide) i) (b_l_there_and_back T G_l_next G_l_turned G_l_free) m_l_there_and_back, hm, F.kp, F.binds fun _ _ _ _ _ _ us hl => match us, hl with | [_, _, _, _], _ => rfl⟩
abbrev s_l_one_otherwise : Stmt := topS 23
abbrev N_l_one_otherwise : List Str := ["row", "names", "spare", "found", "at", "both", "name"]
abbrev k_l_one_otherwise : List SK := [.v, .r, .r, .o, .v, .v, .v]
theorem sc_l_one_otherwise : FnScope N_l_one_otherwise ["row", "names", "spare"] (defScope s_l_one_otherwise) := ⟨rfl, rfl, rfl, by decide +kernel, rfl, by decide +kernel, by decide +kernel⟩
theorem b_l_one_otherwise {P : Program} {w : World} {K : PySem.W.Frag} {mg : Str → Option Value} {base : Heap} (T : TX mg) {f : Addr} (cdv : Value) (A : Around) (outer : List Env) (s : Shared) (H : Hp) (E : XK) (hr : Room 0 (A.deeper (envOfC "_law_one_otherwise" (defScope s_l_one_otherwise) s.heap.objs.size f cdv))) :
    SSs (cxOf CX0 P w K mg base N_l_one_otherwise "_law_one_otherwise" (defScope s_l_one_otherwise) f cdv A outer s H E).nox k_l_one_otherwise [3] .nw (defBody s_l_one_otherwise) (wb_l_one_otherwise) :=
  (sss_cons (ss_setO (Me := []) (i := 3) sc_l_one_otherwise.nd rfl (by first | exact Or.inl rfl | exact Or.inr rfl) (se_lst (sa_cons (se_v (pv 0) rfl) sa_nil)) rfl)
      (sss_cons (ss_for (Me := []) PassesOwn.never rfl (si_rg1 (by rfl) T.b_range (se_blt call_len_seq bd_len (by rfl) T.b_len bt_len (sa_cons (se_v (pv 0) rfl) sa_nil))) (sg_name (pg_name (i := 4) sc_l_one_otherwise.nd rfl (by first | exact Or.inl rfl | exact Or.inr rfl)) rfl) (sss_cons (ss_expr (Me := [3]) (se_mut (Ma := []) PySem.F.slot_list_append PySem.F.type_list_append mt_append md_append (pv 3) (sa_cons (se_bin op_addF od_add (se_sl sl_F sd_F (se_v (pv 0) rfl) so_n (so_s (se_v (pv 4) rfl))) (se_sl sl_F sd_F (se_v (pv 0) rfl) (so_s (se_bin op_addF od_add (se_v (pv 4) rfl) se_int)) so_n)) sa_nil) (Or.inl rfl)))
      (sss_cons (ss_set (Me := []) (i := 5) sc_l_one_otherwise.nd rfl (by first | exact Or.inl rfl | exact Or.inr rfl) (se_bin op_addF od_add (se_sl sl_F sd_F (se_v (pv 0) rfl) (so_s (se_bin op_addF od_add (se_v (pv 4) rfl) se_int)) (so_s (se_bin op_addF od_add (se_v (pv 4) rfl) se_int))) (se_sl sl_F sd_F (se_v (pv 0) rfl) (so_s (se_v (pv 4) rfl)) (so_s (se_bin op_addF od_add (se_v (pv 4) rfl) se_int)))) rfl)
      (sss_one (ss_expr (Me := [3]) (se_mut (Ma := []) PySem.F.slot_list_append PySem.F.type_list_append mt_append md_append (pv 3) (sa_cons (se_bin op_addF od_add (se_bin op_addF od_add (se_sl sl_F sd_F (se_v (pv 0) rfl) so_n (so_s (se_v (pv 4) rfl))) (se_v (pv 5) rfl)) (se_sl sl_F sd_F (se_v (pv 0) rfl) (so_s (se_bin op_addF od_add (se_v (pv 4) rfl) se_int)) so_n)) sa_nil) (Or.inl rfl)))))))
      (sss_cons (ss_for (Me := []) PassesOwn.never rfl (si_seq (se_r (pv 1) rfl)) (sg_name (pg_name (i := 6) sc_l_one_otherwise.nd rfl (by first | exact Or.inl rfl | exact Or.inr rfl)) rfl) (sss_cons (ss_for (Me := []) PassesOwn.never rfl (si_rg1 (by rfl) T.b_range (se_blt call_len_seq bd_len (by rfl) T.b_len bt_len (sa_cons (se_v (pv 0) rfl) sa_nil))) (sg_name (pg_name (i := 4) sc_l_one_otherwise.nd rfl (by first | exact Or.inl rfl | exact Or.inr rfl)) rfl) (sss_one (ss_expr (Me := [3]) (se_mut (Ma := []) PySem.F.slot_list_append PySem.F.type_list_append mt_append md_append (pv 3) (sa_cons (se_bin op_addF od_add (se_bin op_addF od_add (se_sl sl_F sd_F (se_v (pv 0) rfl) so_n (so_s (se_v (pv 4) rfl))) (se_lst (sa_cons (se_v (pv 6) rfl) sa_nil))) (se_sl sl_F sd_F (se_v (pv 0) rfl) (so_s (se_bin op_addF od_add (se_v (pv 4) rfl) se_int)) so_n)) sa_nil) (Or.inl rfl)))))
      (sss_one (ss_expr (Me := [3]) (se_mut (Ma := []) PySem.F.slot_list_append PySem.F.type_list_append mt_append md_append (pv 3) (sa_cons (se_bin op_addF od_add (se_bin op_addF od_add (se_sl sl_F sd_F (se_v (pv 0) rfl) so_n (so_s (se_r (pv 2) rfl))) (se_lst (sa_cons (se_v (pv 6) rfl) sa_nil))) (se_sl sl_F sd_F (se_v (pv 0) rfl) (so_s (se_r (pv 2) rfl)) so_n)) sa_nil) (Or.inl rfl))))))
      (sss_one (ss_retow (Me := []) (se_o (pv 3) rfl) rfl)))))
theorem g_l_one_otherwise {P : Program} {w : World} {K : PySem.W.Frag} {mg : Str → Option Value} {base : Heap} {f : Addr} {fd : FuncData} (T : TX mg) (F : Fun K "_law_one_otherwise" "_law_one_otherwise" s_l_one_otherwise f fd) (hm : mg "_law_one_otherwise" = some (.ref f)) : FnB P w K mg base 1 "_law_one_otherwise" ["row", "names", "spare"] [.fz, .rd, .rd] .nw S_l_one_otherwise :=
  ⟨f, fd, fn_def [.fz, .rd, .rd] F sc_l_one_otherwise rfl rfl rfl (by first | exact .inl rfl | exact .inr rfl) (by intro i; match i with | i => exact noq (by decide) i) (b_l_one_otherwise T) m_l_one_otherwise, hm, F.kp, F.binds fun _ _ _ _ _ _ us hl => match us, hl with | [_, _, _], _ => rfl⟩
abbrev s_l_is_fall : Stmt := topS 18
abbrev N_l_is_fall : List Str := ["web", "pointing", "flows", "left", "turn", "ends", "begin", "end", "place"]
abbrev k_l_is_fall : List SK := [.r, .r, .v, .v, .v, .v, .v, .v, .v]
theorem sc_l_is_fall : FnScope N_l_is_fall ["web", "pointing"] (defScope s_l_is_fall) := ⟨rfl, rfl, rfl, by decide +kernel, rfl, by decide +kernel, by decide +kernel⟩
theorem b_l_is_fall {P : Program} {w : World} {K : PySem.W.Frag} {mg : Str → Option Value} {base : Heap} (T : TX mg) (G_l_flows : FnB P w K mg base 1 "_law_flows" ["web", "pointing"] [.rd, .rd] .fz S_l_flows) {f : Addr} (cdv : Value) (A : Around) (outer : List Env) (s : Shared) (H : Hp) (E : XK) (hr : Room 1 (A.deeper (envOfC "_law_is_fall" (defScope s_l_is_fall) s.heap.objs.size f cdv))) :
    SSs (cxOf CX0 P w K mg base N_l_is_fall "_law_is_fall" (defScope s_l_is_fall) f cdv A outer s H E).nox k_l_is_fall [] .fz (defBody s_l_is_fall) (wb_l_is_fall S_l_flows) :=
  (sss_cons (ss_set (Me := []) (i := 2) sc_l_is_fall.nd rfl (by first | exact Or.inl rfl | exact Or.inr rfl) (se_fn G_l_flows hr (by rfl) (sa_cons (se_r (pv 0) rfl) (sa_cons (se_r (pv 1) rfl) sa_nil))) rfl)
      (sss_cons (ss_set (Me := []) (i := 3) sc_l_is_fall.nd rfl (by first | exact Or.inl rfl | exact Or.inr rfl) (SE.nf (se_lstRg1 (by rfl) T.b_list (by rfl) T.b_range (se_ix ix_seq od_ix (se_r (pv 0) rfl) se_int (fun _ _ => rfl)))) rfl)
      (sss_cons (ss_for (Me := []) PassesOwn.never rfl (si_rg1 (by rfl) T.b_range (se_ix ix_seq od_ix (se_r (pv 0) rfl) se_int (fun _ _ => rfl))) (sg_name (pg_name (i := 4) sc_l_is_fall.nd rfl (by first | exact Or.inl rfl | exact Or.inr rfl)) rfl) (sss_cons (ss_set (Me := []) (i := 5) sc_l_is_fall.nd rfl (by first | exact Or.inl rfl | exact Or.inr rfl) (SE.nf (se_lc rfl sc_l_is_fall.nd (si_seq (se_v (pv 2) rfl)) (own := [("begin", 6), ("end", 7)]) (blkOk_by (by kernel_rfl)) (fun _ _ _ _ _ => (sg_tup rfl (sgs_cons (sg_name (pg_name (i := 6) sc_l_is_fall.nd rfl (by first | exact Or.inl rfl | exact Or.inr rfl)) rfl) (sgs_cons (sg_name (pg_name (i := 7) sc_l_is_fall.nd rfl (by first | exact Or.inl rfl | exact Or.inr rfl)) rfl) sgs_nil)))) (fun _ _ _ _ _ => (sp_one (st_cmp (op_inF (room65 hr)) od_in (se_v (pv 6) rfl) (se_v (pv 3) rfl) (by with_unfolding_all rfl)))) (fun _ _ _ _ _ => (se_v (pv 7) rfl)))) rfl)
      (sss_one (ss_set (Me := []) (i := 3) sc_l_is_fall.nd rfl (by first | exact Or.inl rfl | exact Or.inr rfl) (SE.nf (se_lc rfl sc_l_is_fall.nd (si_seq (se_v (pv 3) rfl)) (own := [("place", 8)]) (blkOk_by (by kernel_rfl)) (fun _ _ _ _ _ => (sg_name (pg_name (i := 8) sc_l_is_fall.nd rfl (by first | exact Or.inl rfl | exact Or.inr rfl)) rfl)) (fun _ _ _ _ _ => (sp_one (st_cmp (op_inF (room65 hr)) od_in (se_v (pv 8) rfl) (se_v (pv 5) rfl) (by with_unfolding_all rfl)))) (fun _ _ _ _ _ => (se_v (pv 8) rfl)))) rfl))))
      (sss_one (ss_ret (Me := []) (se_cmp (op_eqD hr.units) od_eq (se_v (pv 3) rfl) (se_lst sa_nil) (nomark _)))))))
theorem g_l_is_fall {P : Program} {w : World} {K : PySem.W.Frag} {mg : Str → Option Value} {base : Heap} {f : Addr} {fd : FuncData} (T : TX mg) (G_l_flows : FnB P w K mg base 1 "_law_flows" ["web", "pointing"] [.rd, .rd] .fz S_l_flows) (F : Fun K "_law_is_fall" "_law_is_fall" s_l_is_fall f fd) (hm : mg "_law_is_fall" = some (.ref f)) : FnB P w K mg base 2 "_law_is_fall" ["web", "pointing"] [.rd, .rd] .fz S_l_is_fall :=
  ⟨f, fd, fn_def [.rd, .rd] F sc_l_is_fall rfl rfl rfl (by first | exact .inl rfl | exact .inr rfl) (by intro i; match i with | i => exact noq (by decide) i) (b_l_is_fall T G_l_flows) m_l_is_fall, hm, F.kp, F.binds fun _ _ _ _ _ _ us hl => match us, hl with | [_, _], _ => rfl⟩
abbrev s_l_is_road : Stmt := topS 22
abbrev N_l_is_road : List Str := ["web", "one", "other", "row", "here", "k"]
abbrev k_l_is_road : List SK := [.r, .v, .r, .r, .v, .v]
theorem sc_l_is_road : FnScope N_l_is_road ["web", "one", "other", "row"] (defScope s_l_is_road) := ⟨rfl, rfl, rfl, by decide +kernel, rfl, by decide +kernel, by decide +kernel⟩
theorem b_l_is_road {P : Program} {w : World} {K : PySem.W.Frag} {mg : Str → Option Value} {base : Heap} (T : TX mg) (G_l_is_fall : FnB P w K mg base 2 "_law_is_fall" ["web", "pointing"] [.rd, .rd] .fz S_l_is_fall) (G_l_turned : FnB P w K mg base 1 "_law_turned" ["pointing", "k"] [.rd, .rd] .fz S_l_turned) {f : Addr} (cdv : Value) (A : Around) (outer : List Env) (s : Shared) (H : Hp) (E : XK) (hr : Room 2 (A.deeper (envOfC "_law_is_road" (defScope s_l_is_road) s.heap.objs.size f cdv))) :
    SSs (cxOf CX0 P w K mg base N_l_is_road "_law_is_road" (defScope s_l_is_road) f cdv A outer s H E).nox k_l_is_road [] .fz (defBody s_l_is_road) (wb_l_is_road S_l_is_fall S_l_turned) :=
  (sss_cons (ss_set (Me := []) (i := 4) sc_l_is_road.nd rfl (by first | exact Or.inl rfl | exact Or.inr rfl) (se_v (pv 1) rfl) rfl)
      (sss_cons (ss_for (Me := []) PassesOwn.never rfl (si_seq (se_r (pv 3) rfl)) (sg_name (pg_name (i := 5) sc_l_is_road.nd rfl (by first | exact Or.inl rfl | exact Or.inr rfl)) rfl) (sss_cons (ss_if (Me := []) (SW.st (sw_or (st_not (st_chain op_le od_le (op_ltF hr.units0) od_lt se_int (se_v (pv 5) rfl) (se_blt call_len_seq bd_len (by rfl) T.b_len bt_len (sa_cons (se_v (pv 1) rfl) sa_nil)))) (sw_or1 (st_not (st_val (se_fn G_l_is_fall hr (by rfl) (sa_cons (se_r (pv 0) rfl) (sa_cons (se_fn G_l_turned hr (by rfl) (sa_cons (se_v (pv 4) rfl) (sa_cons (se_v (pv 5) rfl) sa_nil))) sa_nil)))))))) (sss_one (ss_ret (Me := []) se_bl)) sss_nil)
      (sss_one (ss_set (Me := []) (i := 4) sc_l_is_road.nd rfl (by first | exact Or.inl rfl | exact Or.inr rfl) (se_fn G_l_turned hr (by rfl) (sa_cons (se_v (pv 4) rfl) (sa_cons (se_v (pv 5) rfl) sa_nil))) rfl))))
      (sss_one (ss_ret (Me := []) (se_cmp (op_eqD hr.units) od_eq (se_v (pv 4) rfl) (se_r (pv 2) rfl) (nomark _))))))
theorem g_l_is_road {P : Program} {w : World} {K : PySem.W.Frag} {mg : Str → Option Value} {base : Heap} {f : Addr} {fd : FuncData} (T : TX mg) (G_l_is_fall : FnB P w K mg base 2 "_law_is_fall" ["web", "pointing"] [.rd, .rd] .fz S_l_is_fall) (G_l_turned : FnB P w K mg base 1 "_law_turned" ["pointing", "k"] [.rd, .rd] .fz S_l_turned) (F : Fun K "_law_is_road" "_law_is_road" s_l_is_road f fd) (hm : mg "_law_is_road" = some (.ref f)) : FnB P w K mg base 3 "_law_is_road" ["web", "one", "other", "row"] [.rd, .fz, .rd, .rd] .fz S_l_is_road :=
  ⟨f, fd, fn_def [.rd, .fz, .rd, .rd] F sc_l_is_road rfl rfl rfl (by first | exact .inl rfl | exact .inr rfl) (by intro i; match i with | i => exact noq (by decide) i) (b_l_is_road T G_l_is_fall G_l_turned) m_l_is_road, hm, F.kp, F.binds fun _ _ _ _ _ _ us hl => match us, hl with | [_, _, _, _], _ => rfl⟩
abbrev s_law : Stmt := topS 27
abbrev N_law : List Str := ["script", "cell", "pool", "small", "web", "one", "other", "row", "names", "some", "thing", "handed", "found"]
abbrev k_law : List SK := [.r, .v, .p, .v, .v, .v, .v, .v, .v, .o, .v, .v, .v]
theorem sc_law : FnScope N_law ["script"] (defScope s_law) := ⟨rfl, rfl, rfl, by decide +kernel, rfl, by decide +kernel, by decide +kernel⟩
theorem b_law {P : Program} {w : World} {K : PySem.W.Frag} {mg : Str → Option Value} {base : Heap} (T : TX mg) (G_l_pool : FnB P w K mg base 1 "_law_pool" ["cell"] [.rd] .nw S_l_pool) (G_l_next : FnB P w K mg base 1 "_law_next" ["pool", "base"] [.pl, .rd] .fz S_l_next) (G_l_web : FnB P w K mg base 3 "_law_web" ["pool", "most", "room", "whole"] [.pl, .rd, .rd, .rd] .fz S_l_web) (G_l_fall : FnB P w K mg base 3 "_law_fall" ["pool", "web"] [.pl, .rd] .fz S_l_fall) (G_l_made_road : FnB P w K mg base 3 "_law_made_road" ["pool", "web", "one", "other"] [.pl, .rd, .fz, .rd] .fz S_l_made_road) (G_l_there_and_back : FnB P w K mg base 3 "_law_there_and_back" ["pool", "web", "one", "row"] [.pl, .rd, .fz, .rd] .fz S_l_there_and_back) (G_l_some_otherwise : FnB P w K mg base 2 "_law_some_otherwise" ["pool", "row", "names"] [.pl, .fz, .rd] .nw S_l_some_otherwise) (G_l_one_otherwise : FnB P w K mg base 1 "_law_one_otherwise" ["row", "names", "spare"] [.fz, .rd, .rd] .nw S_l_one_otherwise) (G_road_right : FnB P w K mg base 6 "road_right" ["web", "one", "other", "row"] [.rd, .fz, .rd, .rd] .fz S_road_right) (G_l_is_road : FnB P w K mg base 3 "_law_is_road" ["web", "one", "other", "row"] [.rd, .fz, .rd, .rd] .fz S_l_is_road) {f : Addr} (cdv : Value) (A : Around) (outer : List Env) (s : Shared) (H : Hp) (E : XK) (hr : Room 6 (A.deeper (envOfC "law" (defScope s_law) s.heap.objs.size f cdv))) :
    SSs (cxOf CX0 P w K mg base N_law "law" (defScope s_law) f cdv A outer s H E).nox k_law [9] .fz (defBody s_law) (wb_law S_l_pool S_l_next S_l_web S_l_fall S_l_made_road S_l_there_and_back S_l_some_otherwise S_l_one_otherwise S_road_right S_l_is_road) :=
  (sss_cons (ss_for (Me := []) PassesOwn.never rfl (si_seq (se_bin op_addF od_add (se_lst (sa_cons se_int sa_nil)) (se_sl sl_F sd_F (se_r (pv 0) rfl) so_n (so_s se_int)))) (sg_name (pg_name (i := 1) sc_law.nd rfl (by first | exact Or.inl rfl | exact Or.inr rfl)) rfl) (sss_cons (ss_setP (Me := []) (i := 2) sc_law.nd rfl (by first | exact Or.inl rfl | exact Or.inr rfl) (se_fn G_l_pool hr (by rfl) (sa_cons (se_v (pv 1) rfl) sa_nil)) rfl)
      (sss_cons (ss_set (Me := []) (i := 3) sc_law.nd rfl (by first | exact Or.inl rfl | exact Or.inr rfl) (se_cmp (op_eqD hr.units) od_eq (se_fn G_l_next hr (by rfl) (sa_cons (se_p (pv 2) rfl) (sa_cons se_int sa_nil))) se_int (nomark _)) rfl)
      (sss_cons (ss_set (Me := []) (i := 4) sc_law.nd rfl (by first | exact Or.inl rfl | exact Or.inr rfl) (se_fn G_l_web hr (by rfl) (sa_cons (se_p (pv 2) rfl) (sa_cons (se_ix ix_seq od_ix (se_lst (sa_cons se_int (sa_cons se_int sa_nil))) (se_bty call_int1 bd_int (by rfl) T.b_int bt_int (sa_cons (se_v (pv 3) rfl) sa_nil)) (fun _ _ => rfl)) (sa_cons (se_ix ix_seq od_ix (se_lst (sa_cons se_int (sa_cons se_int sa_nil))) (se_bty call_int1 bd_int (by rfl) T.b_int bt_int (sa_cons (se_v (pv 3) rfl) sa_nil)) (fun _ _ => rfl)) (sa_cons se_bl sa_nil))))) rfl)
      (sss_cons (ss_par (Me := []) (i := 5) (j := 6) rfl sc_law.nd rfl rfl (by decide) rfl rfl (sa_cons (se_fn G_l_fall hr (by rfl) (sa_cons (se_p (pv 2) rfl) (sa_cons (se_v (pv 4) rfl) sa_nil))) (sa_cons (se_fn G_l_fall hr (by rfl) (sa_cons (se_p (pv 2) rfl) (sa_cons (se_v (pv 4) rfl) sa_nil))) sa_nil)) rfl rfl (by rfl))
      (sss_cons (ss_set (Me := []) (i := 7) sc_law.nd rfl (by first | exact Or.inl rfl | exact Or.inr rfl) (se_fn G_l_made_road hr (by rfl) (sa_cons (se_p (pv 2) rfl) (sa_cons (se_v (pv 4) rfl) (sa_cons (se_v (pv 5) rfl) (sa_cons (se_v (pv 6) rfl) sa_nil))))) rfl)
      (sss_cons (ss_while (Me := []) PassesOwn.never (SW.st (sw_and (st_not (st_val (se_v (pv 3) rfl))) (sw_and (st_cmp (op_neD hr.units) od_ne (se_ix ix_seq od_ix (se_v (pv 4) rfl) se_int (fun _ _ => rfl)) (se_tup sa_nil) (nomark _)) (sw_and (st_cmp op_gt od_gt (se_fn G_l_next hr (by rfl) (sa_cons (se_p (pv 2) rfl) (sa_cons se_int sa_nil))) se_int (nomark _)) (sw_and1 (st_cmp (op_ltF hr.units0) od_lt (se_blt call_len_seq bd_len (by rfl) T.b_len bt_len (sa_cons (se_v (pv 7) rfl) sa_nil)) se_int (nomark _))))))) (sss_one (ss_set (Me := []) (i := 7) sc_law.nd rfl (by first | exact Or.inl rfl | exact Or.inr rfl) (se_fn G_l_there_and_back hr (by rfl) (sa_cons (se_p (pv 2) rfl) (sa_cons (se_v (pv 4) rfl) (sa_cons (se_v (pv 5) rfl) (sa_cons (se_v (pv 7) rfl) sa_nil))))) rfl)))
      (sss_cons (ss_set (Me := []) (i := 8) sc_law.nd rfl (by first | exact Or.inl rfl | exact Or.inr rfl) (se_bin op_addF od_add (se_lstRg1 (by rfl) T.b_list (by rfl) T.b_range (se_blt call_len_seq bd_len (by rfl) T.b_len bt_len (sa_cons (se_v (pv 5) rfl) sa_nil))) (se_lst (sa_cons (se_un un_neg o1_neg se_int) (sa_cons (se_blt call_len_seq bd_len (by rfl) T.b_len bt_len (sa_cons (se_v (pv 5) rfl) sa_nil)) (sa_cons (se_bin op_addF od_add (se_blt call_len_seq bd_len (by rfl) T.b_len bt_len (sa_cons (se_v (pv 5) rfl) sa_nil)) (se_fn G_l_next hr (by rfl) (sa_cons (se_p (pv 2) rfl) (sa_cons (se_bin op_pow od_pow se_int se_int) sa_nil)))) sa_nil))))) rfl)
      (sss_cons (ss_setO (Me := []) (i := 9) sc_law.nd rfl (by first | exact Or.inl rfl | exact Or.inr rfl) (se_fn G_l_some_otherwise hr (by rfl) (sa_cons (se_p (pv 2) rfl) (sa_cons (se_v (pv 7) rfl) (sa_cons (se_v (pv 8) rfl) sa_nil)))) rfl)
      (sss_cons (ss_if (Me := []) (SW.st (sw_and (st_val (se_v (pv 3) rfl)) (sw_and1 (st_cmp (op_ltF hr.units0) od_lt (se_blt call_len_seq bd_len (by rfl) T.b_len bt_len (sa_cons (se_v (pv 7) rfl) sa_nil)) se_int (nomark _))))) (sss_one (ss_expr (Me := [9]) (se_mut (Ma := []) PySem.F.slot_list_extend PySem.F.type_list_extend mt_extend md_extend (pv 9) (sa_cons (se_fn G_l_one_otherwise hr (by rfl) (sa_cons (se_v (pv 7) rfl) (sa_cons (se_v (pv 8) rfl) (sa_cons (se_fn G_l_next hr (by rfl) (sa_cons (se_p (pv 2) rfl) (sa_cons (se_bin op_addF od_add (se_blt call_len_seq bd_len (by rfl) T.b_len bt_len (sa_cons (se_v (pv 7) rfl) sa_nil)) se_int) sa_nil))) sa_nil)))) sa_nil) (Or.inl rfl)))) sss_nil)
      (sss_one (SS.mono (ss_for (M := []) (Me := []) PassesOwn.never rfl (si_seq (se_o (pv 9) rfl)) (sg_name (pg_name (i := 10) sc_law.nd rfl (by first | exact Or.inl rfl | exact Or.inr rfl)) rfl) (sss_cons (ss_set (Me := []) (i := 11) sc_law.nd rfl (by first | exact Or.inl rfl | exact Or.inr rfl) (SE.nf (se_bty call_list_of bd_lst (by rfl) T.b_list bt_list (sa_cons (se_v (pv 10) rfl) sa_nil))) rfl)
      (sss_cons (ss_set (Me := []) (i := 12) sc_law.nd rfl (by first | exact Or.inl rfl | exact Or.inr rfl) (se_fn G_road_right hr (by rfl) (sa_cons (se_v (pv 4) rfl) (sa_cons (se_v (pv 5) rfl) (sa_cons (se_v (pv 6) rfl) (sa_cons (se_v (pv 11) rfl) sa_nil))))) rfl)
      (sss_cons (ss_if (Me := []) (SW.st (sw_or (st_not (st_val (se_isi kt_bool (se_v (pv 12) rfl) (by rfl) T.b_isinstance (by rfl) T.b_bool bt_bool))) (sw_or1 (st_cmp (op_neD hr.units) od_ne (se_v (pv 11) rfl) (se_v (pv 10) rfl) (nomark _))))) (sss_one (ss_ret (Me := []) se_bl)) sss_nil)
      (sss_cons (ss_if (Me := []) (st_cmp (op_neD hr.units) od_ne (se_v (pv 12) rfl) (se_fn G_l_is_road hr (by rfl) (sa_cons (se_v (pv 4) rfl) (sa_cons (se_v (pv 5) rfl) (sa_cons (se_v (pv 6) rfl) (sa_cons (se_v (pv 10) rfl) sa_nil))))) (nomark _)) (sss_one (ss_ret (Me := []) se_bl)) sss_nil)
      (sss_one (ss_if (Me := []) (SW.st (sw_and (st_cmp (op_eqD hr.units) od_eq (se_fn G_l_next hr (by rfl) (sa_cons (se_p (pv 2) rfl) (sa_cons se_int sa_nil))) se_int (nomark _)) (sw_and1 (st_cmp (op_neD hr.units) od_ne (se_fn G_road_right hr (by rfl) (sa_cons (se_v (pv 4) rfl) (sa_cons (se_v (pv 5) rfl) (sa_cons (se_v (pv 6) rfl) (sa_cons (se_bty call_tuple_of bd_tup (by rfl) T.b_tuple bt_tuple (sa_cons (se_v (pv 10) rfl) sa_nil)) sa_nil))))) (se_v (pv 12) rfl) (nomark _))))) (sss_one (ss_ret (Me := []) se_bl)) sss_nil)))))))))))))))))))
      (sss_one (ss_ret (Me := []) (se_cmp op_isF od_is (se_fn G_road_right hr (by rfl) (sa_cons (se_tup (sa_cons se_int (sa_cons (se_tup sa_nil) sa_nil))) (sa_cons (se_tup sa_nil) (sa_cons (se_tup sa_nil) (sa_cons (se_tup sa_nil) sa_nil))))) se_bl (nomark _)))))
theorem g_law {P : Program} {w : World} {K : PySem.W.Frag} {mg : Str → Option Value} {base : Heap} {f : Addr} {fd : FuncData} (T : TX mg) (G_l_pool : FnB P w K mg base 1 "_law_pool" ["cell"] [.rd] .nw S_l_pool) (G_l_next : FnB P w K mg base 1 "_law_next" ["pool", "base"] [.pl, .rd] .fz S_l_next) (G_l_web : FnB P w K mg base 3 "_law_web" ["pool", "most", "room", "whole"] [.pl, .rd, .rd, .rd] .fz S_l_web) (G_l_fall : FnB P w K mg base 3 "_law_fall" ["pool", "web"] [.pl, .rd] .fz S_l_fall) (G_l_made_road : FnB P w K mg base 3 "_law_made_road" ["pool", "web", "one", "other"] [.pl, .rd, .fz, .rd] .fz S_l_made_road) (G_l_there_and_back : FnB P w K mg base 3 "_law_there_and_back" ["pool", "web", "one", "row"] [.pl, .rd, .fz, .rd] .fz S_l_there_and_back) (G_l_some_otherwise : FnB P w K mg base 2 "_law_some_otherwise" ["pool", "row", "names"] [.pl, .fz, .rd] .nw S_l_some_otherwise) (G_l_one_otherwise : FnB P w K mg base 1 "_law_one_otherwise" ["row", "names", "spare"] [.fz, .rd, .rd] .nw S_l_one_otherwise) (G_road_right : FnB P w K mg base 6 "road_right" ["web", "one", "other", "row"] [.rd, .fz, .rd, .rd] .fz S_road_right) (G_l_is_road : FnB P w K mg base 3 "_law_is_road" ["web", "one", "other", "row"] [.rd, .fz, .rd, .rd] .fz S_l_is_road) (F : Fun K "law" "law" s_law f fd) : FnOk P w K mg base CX0 7 f fd ["script"] (spOf K [.rd] .fz lawS) :=
  fn_def [.rd] F sc_law rfl rfl rfl (by first | exact .inl rfl | exact .inr rfl) (by intro i; exact noq (by decide) i) (b_law T G_l_pool G_l_next G_l_web G_l_fall G_l_made_road G_l_there_and_back G_l_some_otherwise G_l_one_otherwise G_road_right G_l_is_road) m_law
theorem all_mk {l : PySem.W.OpenLaw} {w : World} {K : PySem.W.Frag} {h : Heap} {mg : Str → Option Value} {fa : Addr} (X : K.In h) (G : h.Ns mainGlobals mg) (hfa : mg "law" = some (.ref fa))
    {f_l_pool : Addr} {od_l_pool an_l_pool : Option Addr} {sl_l_pool : Array (Option Value)} {oc_l_pool kV_l_pool dc_l_pool pm_l_pool cd_l_pool ct_l_pool : Value}
    (a_l_pool : PySem.W.nsIn K mainGlobals "_law_pool" = some (some (.ref f_l_pool))) (l_l_pool : K.lookup f_l_pool = some ⟨oc_l_pool, od_l_pool, .func (PySem.W.fnOf "_law_pool" "_law_pool" (defArgs s_l_pool) (defBody s_l_pool) (defScope s_l_pool) .none kV_l_pool dc_l_pool pm_l_pool an_l_pool cd_l_pool ct_l_pool), sl_l_pool⟩) (c_l_pool : PySem.W.codeIn K cd_l_pool "_law_pool" = true) (k_l_pool' : PySem.W.keepIn K (.ref f_l_pool) = true)
    {f_l_next : Addr} {od_l_next an_l_next : Option Addr} {sl_l_next : Array (Option Value)} {oc_l_next kV_l_next dc_l_next pm_l_next cd_l_next ct_l_next : Value}
    (a_l_next : PySem.W.nsIn K mainGlobals "_law_next" = some (some (.ref f_l_next))) (l_l_next : K.lookup f_l_next = some ⟨oc_l_next, od_l_next, .func (PySem.W.fnOf "_law_next" "_law_next" (defArgs s_l_next) (defBody s_l_next) (defScope s_l_next) .none kV_l_next dc_l_next pm_l_next an_l_next cd_l_next ct_l_next), sl_l_next⟩) (c_l_next : PySem.W.codeIn K cd_l_next "_law_next" = true) (k_l_next' : PySem.W.keepIn K (.ref f_l_next) = true)
    {f_l_shuffled : Addr} {od_l_shuffled an_l_shuffled : Option Addr} {sl_l_shuffled : Array (Option Value)} {oc_l_shuffled kV_l_shuffled dc_l_shuffled pm_l_shuffled cd_l_shuffled ct_l_shuffled : Value}
    (a_l_shuffled : PySem.W.nsIn K mainGlobals "_law_shuffled" = some (some (.ref f_l_shuffled))) (l_l_shuffled : K.lookup f_l_shuffled = some ⟨oc_l_shuffled, od_l_shuffled, .func (PySem.W.fnOf "_law_shuffled" "_law_shuffled" (defArgs s_l_shuffled) (defBody s_l_shuffled) (defScope s_l_shuffled) .none kV_l_shuffled dc_l_shuffled pm_l_shuffled an_l_shuffled cd_l_shuffled ct_l_shuffled), sl_l_shuffled⟩) (c_l_shuffled : PySem.W.codeIn K cd_l_shuffled "_law_shuffled" = true) (k_l_shuffled' : PySem.W.keepIn K (.ref f_l_shuffled) = true)
    {f_l_pair : Addr} {od_l_pair an_l_pair : Option Addr} {sl_l_pair : Array (Option Value)} {oc_l_pair kV_l_pair dc_l_pair pm_l_pair cd_l_pair ct_l_pair : Value}
    (a_l_pair : PySem.W.nsIn K mainGlobals "_law_pair" = some (some (.ref f_l_pair))) (l_l_pair : K.lookup f_l_pair = some ⟨oc_l_pair, od_l_pair, .func (PySem.W.fnOf "_law_pair" "_law_pair" (defArgs s_l_pair) (defBody s_l_pair) (defScope s_l_pair) .none kV_l_pair dc_l_pair pm_l_pair an_l_pair cd_l_pair ct_l_pair), sl_l_pair⟩) (c_l_pair : PySem.W.codeIn K cd_l_pair "_law_pair" = true) (k_l_pair' : PySem.W.keepIn K (.ref f_l_pair) = true)
    {f_l_web : Addr} {od_l_web an_l_web : Option Addr} {sl_l_web : Array (Option Value)} {oc_l_web kV_l_web dc_l_web pm_l_web cd_l_web ct_l_web : Value}
    (a_l_web : PySem.W.nsIn K mainGlobals "_law_web" = some (some (.ref f_l_web))) (l_l_web : K.lookup f_l_web = some ⟨oc_l_web, od_l_web, .func (PySem.W.fnOf "_law_web" "_law_web" (defArgs s_l_web) (defBody s_l_web) (defScope s_l_web) .none kV_l_web dc_l_web pm_l_web an_l_web cd_l_web ct_l_web), sl_l_web⟩) (c_l_web : PySem.W.codeIn K cd_l_web "_law_web" = true) (k_l_web' : PySem.W.keepIn K (.ref f_l_web) = true)
    {f_l_turned : Addr} {od_l_turned an_l_turned : Option Addr} {sl_l_turned : Array (Option Value)} {oc_l_turned kV_l_turned dc_l_turned pm_l_turned cd_l_turned ct_l_turned : Value}
    (a_l_turned : PySem.W.nsIn K mainGlobals "_law_turned" = some (some (.ref f_l_turned))) (l_l_turned : K.lookup f_l_turned = some ⟨oc_l_turned, od_l_turned, .func (PySem.W.fnOf "_law_turned" "_law_turned" (defArgs s_l_turned) (defBody s_l_turned) (defScope s_l_turned) .none kV_l_turned dc_l_turned pm_l_turned an_l_turned cd_l_turned ct_l_turned), sl_l_turned⟩) (c_l_turned : PySem.W.codeIn K cd_l_turned "_law_turned" = true) (k_l_turned' : PySem.W.keepIn K (.ref f_l_turned) = true)
    {f_l_flows : Addr} {od_l_flows an_l_flows : Option Addr} {sl_l_flows : Array (Option Value)} {oc_l_flows kV_l_flows dc_l_flows pm_l_flows cd_l_flows ct_l_flows : Value}
    (a_l_flows : PySem.W.nsIn K mainGlobals "_law_flows" = some (some (.ref f_l_flows))) (l_l_flows : K.lookup f_l_flows = some ⟨oc_l_flows, od_l_flows, .func (PySem.W.fnOf "_law_flows" "_law_flows" (defArgs s_l_flows) (defBody s_l_flows) (defScope s_l_flows) .none kV_l_flows dc_l_flows pm_l_flows an_l_flows cd_l_flows ct_l_flows), sl_l_flows⟩) (c_l_flows : PySem.W.codeIn K cd_l_flows "_law_flows" = true) (k_l_flows' : PySem.W.keepIn K (.ref f_l_flows) = true)
    {f_l_reached : Addr} {od_l_reached an_l_reached : Option Addr} {sl_l_reached : Array (Option Value)} {oc_l_reached kV_l_reached dc_l_reached pm_l_reached cd_l_reached ct_l_reached : Value}
    (a_l_reached : PySem.W.nsIn K mainGlobals "_law_reached" = some (some (.ref f_l_reached))) (l_l_reached : K.lookup f_l_reached = some ⟨oc_l_reached, od_l_reached, .func (PySem.W.fnOf "_law_reached" "_law_reached" (defArgs s_l_reached) (defBody s_l_reached) (defScope s_l_reached) .none kV_l_reached dc_l_reached pm_l_reached an_l_reached cd_l_reached ct_l_reached), sl_l_reached⟩) (c_l_reached : PySem.W.codeIn K cd_l_reached "_law_reached" = true) (k_l_reached' : PySem.W.keepIn K (.ref f_l_reached) = true)
    {f_l_free : Addr} {od_l_free an_l_free : Option Addr} {sl_l_free : Array (Option Value)} {oc_l_free kV_l_free dc_l_free pm_l_free cd_l_free ct_l_free : Value}
    (a_l_free : PySem.W.nsIn K mainGlobals "_law_free" = some (some (.ref f_l_free))) (l_l_free : K.lookup f_l_free = some ⟨oc_l_free, od_l_free, .func (PySem.W.fnOf "_law_free" "_law_free" (defArgs s_l_free) (defBody s_l_free) (defScope s_l_free) .none kV_l_free dc_l_free pm_l_free an_l_free cd_l_free ct_l_free), sl_l_free⟩) (c_l_free : PySem.W.codeIn K cd_l_free "_law_free" = true) (k_l_free' : PySem.W.keepIn K (.ref f_l_free) = true)
    {f_l_made_road : Addr} {od_l_made_road an_l_made_road : Option Addr} {sl_l_made_road : Array (Option Value)} {oc_l_made_road kV_l_made_road dc_l_made_road pm_l_made_road cd_l_made_road ct_l_made_road : Value}
    (a_l_made_road : PySem.W.nsIn K mainGlobals "_law_made_road" = some (some (.ref f_l_made_road))) (l_l_made_road : K.lookup f_l_made_road = some ⟨oc_l_made_road, od_l_made_road, .func (PySem.W.fnOf "_law_made_road" "_law_made_road" (defArgs s_l_made_road) (defBody s_l_made_road) (defScope s_l_made_road) .none kV_l_made_road dc_l_made_road pm_l_made_road an_l_made_road cd_l_made_road ct_l_made_road), sl_l_made_road⟩) (c_l_made_road : PySem.W.codeIn K cd_l_made_road "_law_made_road" = true) (k_l_made_road' : PySem.W.keepIn K (.ref f_l_made_road) = true)
    {f_l_some_otherwise : Addr} {od_l_some_otherwise an_l_some_otherwise : Option Addr} {sl_l_some_otherwise : Array (Option Value)} {oc_l_some_otherwise kV_l_some_otherwise dc_l_some_otherwise pm_l_some_otherwise cd_l_some_otherwise ct_l_some_otherwise : Value}
    (a_l_some_otherwise : PySem.W.nsIn K mainGlobals "_law_some_otherwise" = some (some (.ref f_l_some_otherwise))) (l_l_some_otherwise : K.lookup f_l_some_otherwise = some ⟨oc_l_some_otherwise, od_l_some_otherwise, .func (PySem.W.fnOf "_law_some_otherwise" "_law_some_otherwise" (defArgs s_l_some_otherwise) (defBody s_l_some_otherwise) (defScope s_l_some_otherwise) .none kV_l_some_otherwise dc_l_some_otherwise pm_l_some_otherwise an_l_some_otherwise cd_l_some_otherwise ct_l_some_otherwise), sl_l_some_otherwise⟩) (c_l_some_otherwise : PySem.W.codeIn K cd_l_some_otherwise "_law_some_otherwise" = true) (k_l_some_otherwise' : PySem.W.keepIn K (.ref f_l_some_otherwise) = true)
    {f_turned : Addr} {od_turned an_turned : Option Addr} {sl_turned : Array (Option Value)} {oc_turned kV_turned dc_turned pm_turned cd_turned ct_turned : Value}
    (a_turned : PySem.W.nsIn K mainGlobals "turned" = some (some (.ref f_turned))) (l_turned : K.lookup f_turned = some ⟨oc_turned, od_turned, .func (PySem.W.fnOf "turned" "turned" (defArgs s_turned) (defBody s_turned) (defScope s_turned) .none kV_turned dc_turned pm_turned an_turned cd_turned ct_turned), sl_turned⟩) (c_turned : PySem.W.codeIn K cd_turned "turned" = true) (k_turned' : PySem.W.keepIn K (.ref f_turned) = true)
    {f_arrows : Addr} {od_arrows an_arrows : Option Addr} {sl_arrows : Array (Option Value)} {oc_arrows kV_arrows dc_arrows pm_arrows cd_arrows ct_arrows : Value}
    (a_arrows : PySem.W.nsIn K mainGlobals "arrows" = some (some (.ref f_arrows))) (l_arrows : K.lookup f_arrows = some ⟨oc_arrows, od_arrows, .func (PySem.W.fnOf "arrows" "arrows" (defArgs s_arrows) (defBody s_arrows) (defScope s_arrows) .none kV_arrows dc_arrows pm_arrows an_arrows cd_arrows ct_arrows), sl_arrows⟩) (c_arrows : PySem.W.codeIn K cd_arrows "arrows" = true) (k_arrows' : PySem.W.keepIn K (.ref f_arrows) = true)
    {f_before : Addr} {od_before an_before : Option Addr} {sl_before : Array (Option Value)} {oc_before kV_before dc_before pm_before cd_before ct_before : Value}
    (a_before : PySem.W.nsIn K mainGlobals "before" = some (some (.ref f_before))) (l_before : K.lookup f_before = some ⟨oc_before, od_before, .func (PySem.W.fnOf "before" "before" (defArgs s_before) (defBody s_before) (defScope s_before) .none kV_before dc_before pm_before an_before cd_before ct_before), sl_before⟩) (c_before : PySem.W.codeIn K cd_before "before" = true) (k_before' : PySem.W.keepIn K (.ref f_before) = true)
    {f_round_in : Addr} {od_round_in an_round_in : Option Addr} {sl_round_in : Array (Option Value)} {oc_round_in kV_round_in dc_round_in pm_round_in cd_round_in ct_round_in : Value}
    (a_round_in : PySem.W.nsIn K mainGlobals "round_in" = some (some (.ref f_round_in))) (l_round_in : K.lookup f_round_in = some ⟨oc_round_in, od_round_in, .func (PySem.W.fnOf "round_in" "round_in" (defArgs s_round_in) (defBody s_round_in) (defScope s_round_in) .none kV_round_in dc_round_in pm_round_in an_round_in cd_round_in ct_round_in), sl_round_in⟩) (c_round_in : PySem.W.codeIn K cd_round_in "round_in" = true) (k_round_in' : PySem.W.keepIn K (.ref f_round_in) = true)
    {f_looked : Addr} {od_looked an_looked : Option Addr} {sl_looked : Array (Option Value)} {oc_looked kV_looked dc_looked pm_looked cd_looked ct_looked : Value}
    (a_looked : PySem.W.nsIn K mainGlobals "looked" = some (some (.ref f_looked))) (l_looked : K.lookup f_looked = some ⟨oc_looked, od_looked, .func (PySem.W.fnOf "looked" "looked" (defArgs s_looked) (defBody s_looked) (defScope s_looked) .none kV_looked dc_looked pm_looked an_looked cd_looked ct_looked), sl_looked⟩) (c_looked : PySem.W.codeIn K cd_looked "looked" = true) (k_looked' : PySem.W.keepIn K (.ref f_looked) = true)
    {f_is_fall : Addr} {od_is_fall an_is_fall : Option Addr} {sl_is_fall : Array (Option Value)} {oc_is_fall kV_is_fall dc_is_fall pm_is_fall cd_is_fall ct_is_fall : Value}
    (a_is_fall : PySem.W.nsIn K mainGlobals "is_fall" = some (some (.ref f_is_fall))) (l_is_fall : K.lookup f_is_fall = some ⟨oc_is_fall, od_is_fall, .func (PySem.W.fnOf "is_fall" "is_fall" (defArgs s_is_fall) (defBody s_is_fall) (defScope s_is_fall) .none kV_is_fall dc_is_fall pm_is_fall an_is_fall cd_is_fall ct_is_fall), sl_is_fall⟩) (c_is_fall : PySem.W.codeIn K cd_is_fall "is_fall" = true) (k_is_fall' : PySem.W.keepIn K (.ref f_is_fall) = true)
    {f_is_free : Addr} {od_is_free an_is_free : Option Addr} {sl_is_free : Array (Option Value)} {oc_is_free kV_is_free dc_is_free pm_is_free cd_is_free ct_is_free : Value}
    (a_is_free : PySem.W.nsIn K mainGlobals "is_free" = some (some (.ref f_is_free))) (l_is_free : K.lookup f_is_free = some ⟨oc_is_free, od_is_free, .func (PySem.W.fnOf "is_free" "is_free" (defArgs s_is_free) (defBody s_is_free) (defScope s_is_free) .none kV_is_free dc_is_free pm_is_free an_is_free cd_is_free ct_is_free), sl_is_free⟩) (c_is_free : PySem.W.codeIn K cd_is_free "is_free" = true) (k_is_free' : PySem.W.keepIn K (.ref f_is_free) = true)
    {f_road_right : Addr} {od_road_right an_road_right : Option Addr} {sl_road_right : Array (Option Value)} {oc_road_right kV_road_right dc_road_right pm_road_right cd_road_right ct_road_right : Value}
    (a_road_right : PySem.W.nsIn K mainGlobals "road_right" = some (some (.ref f_road_right))) (l_road_right : K.lookup f_road_right = some ⟨oc_road_right, od_road_right, .func (PySem.W.fnOf "road_right" "road_right" (defArgs s_road_right) (defBody s_road_right) (defScope s_road_right) .none kV_road_right dc_road_right pm_road_right an_road_right cd_road_right ct_road_right), sl_road_right⟩) (c_road_right : PySem.W.codeIn K cd_road_right "road_right" = true) (k_road_right' : PySem.W.keepIn K (.ref f_road_right) = true)
    {f_l_fall : Addr} {od_l_fall an_l_fall : Option Addr} {sl_l_fall : Array (Option Value)} {oc_l_fall kV_l_fall dc_l_fall pm_l_fall cd_l_fall ct_l_fall : Value}
    (a_l_fall : PySem.W.nsIn K mainGlobals "_law_fall" = some (some (.ref f_l_fall))) (l_l_fall : K.lookup f_l_fall = some ⟨oc_l_fall, od_l_fall, .func (PySem.W.fnOf "_law_fall" "_law_fall" (defArgs s_l_fall) (defBody s_l_fall) (defScope s_l_fall) .none kV_l_fall dc_l_fall pm_l_fall an_l_fall cd_l_fall ct_l_fall), sl_l_fall⟩) (c_l_fall : PySem.W.codeIn K cd_l_fall "_law_fall" = true) (k_l_fall' : PySem.W.keepIn K (.ref f_l_fall) = true)
    {f_l_there_and_back : Addr} {od_l_there_and_back an_l_there_and_back : Option Addr} {sl_l_there_and_back : Array (Option Value)} {oc_l_there_and_back kV_l_there_and_back dc_l_there_and_back pm_l_there_and_back cd_l_there_and_back ct_l_there_and_back : Value}
    (a_l_there_and_back : PySem.W.nsIn K mainGlobals "_law_there_and_back" = some (some (.ref f_l_there_and_back))) (l_l_there_and_back : K.lookup f_l_there_and_back = some ⟨oc_l_there_and_back, od_l_there_and_back, .func (PySem.W.fnOf "_law_there_and_back" "_law_there_and_back" (defArgs s_l_there_and_back) (defBody s_l_there_and_back) (defScope s_l_there_and_back) .none kV_l_there_and_back dc_l_there_and_back pm_l_there_and_back an_l_there_and_back cd_l_there_and_back ct_l_there_and_back), sl_l_there_and_back⟩) (c_l_there_and_back : PySem.W.codeIn K cd_l_there_and_back "_law_there_and_back" = true) (k_l_there_and_back' : PySem.W.keepIn K (.ref f_l_there_and_back) = true)
    {f_l_one_otherwise : Addr} {od_l_one_otherwise an_l_one_otherwise : Option Addr} {sl_l_one_otherwise : Array (Option Value)} {oc_l_one_otherwise kV_l_one_otherwise dc_l_one_otherwise pm_l_one_otherwise cd_l_one_otherwise ct_l_one_otherwise : Value}
    (a_l_one_otherwise : PySem.W.nsIn K mainGlobals "_law_one_otherwise" = some (some (.ref f_l_one_otherwise))) (l_l_one_otherwise : K.lookup f_l_one_otherwise = some ⟨oc_l_one_otherwise, od_l_one_otherwise, .func (PySem.W.fnOf "_law_one_otherwise" "_law_one_otherwise" (defArgs s_l_one_otherwise) (defBody s_l_one_otherwise) (defScope s_l_one_otherwise) .none kV_l_one_otherwise dc_l_one_otherwise pm_l_one_otherwise an_l_one_otherwise cd_l_one_otherwise ct_l_one_otherwise), sl_l_one_otherwise⟩) (c_l_one_otherwise : PySem.W.codeIn K cd_l_one_otherwise "_law_one_otherwise" = true) (k_l_one_otherwise' : PySem.W.keepIn K (.ref f_l_one_otherwise) = true)
    {f_l_is_fall : Addr} {od_l_is_fall an_l_is_fall : Option Addr} {sl_l_is_fall : Array (Option Value)} {oc_l_is_fall kV_l_is_fall dc_l_is_fall pm_l_is_fall cd_l_is_fall ct_l_is_fall : Value}
    (a_l_is_fall : PySem.W.nsIn K mainGlobals "_law_is_fall" = some (some (.ref f_l_is_fall))) (l_l_is_fall : K.lookup f_l_is_fall = some ⟨oc_l_is_fall, od_l_is_fall, .func (PySem.W.fnOf "_law_is_fall" "_law_is_fall" (defArgs s_l_is_fall) (defBody s_l_is_fall) (defScope s_l_is_fall) .none kV_l_is_fall dc_l_is_fall pm_l_is_fall an_l_is_fall cd_l_is_fall ct_l_is_fall), sl_l_is_fall⟩) (c_l_is_fall : PySem.W.codeIn K cd_l_is_fall "_law_is_fall" = true) (k_l_is_fall' : PySem.W.keepIn K (.ref f_l_is_fall) = true)
    {f_l_is_road : Addr} {od_l_is_road an_l_is_road : Option Addr} {sl_l_is_road : Array (Option Value)} {oc_l_is_road kV_l_is_road dc_l_is_road pm_l_is_road cd_l_is_road ct_l_is_road : Value}
    (a_l_is_road : PySem.W.nsIn K mainGlobals "_law_is_road" = some (some (.ref f_l_is_road))) (l_l_is_road : K.lookup f_l_is_road = some ⟨oc_l_is_road, od_l_is_road, .func (PySem.W.fnOf "_law_is_road" "_law_is_road" (defArgs s_l_is_road) (defBody s_l_is_road) (defScope s_l_is_road) .none kV_l_is_road dc_l_is_road pm_l_is_road an_l_is_road cd_l_is_road ct_l_is_road), sl_l_is_road⟩) (c_l_is_road : PySem.W.codeIn K cd_l_is_road "_law_is_road" = true) (k_l_is_road' : PySem.W.keepIn K (.ref f_l_is_road) = true)
    {f_law : Addr} {od_law an_law : Option Addr} {sl_law : Array (Option Value)} {oc_law kV_law dc_law pm_law cd_law ct_law : Value}
    (a_law : PySem.W.nsIn K mainGlobals "law" = some (some (.ref f_law))) (l_law : K.lookup f_law = some ⟨oc_law, od_law, .func (PySem.W.fnOf "law" "law" (defArgs s_law) (defBody s_law) (defScope s_law) .none kV_law dc_law pm_law an_law cd_law ct_law), sl_law⟩) (c_law : PySem.W.codeIn K cd_law "law" = true) (k_law' : PySem.W.keepIn K (.ref f_law) = true)
    (z_bool : PySem.W.nsIn K mainGlobals "bool" = some none)
    (z_enumerate : PySem.W.nsIn K mainGlobals "enumerate" = some none)
    (z_int : PySem.W.nsIn K mainGlobals "int" = some none)
    (z_isinstance : PySem.W.nsIn K mainGlobals "isinstance" = some none)
    (z_len : PySem.W.nsIn K mainGlobals "len" = some none)
    (z_list : PySem.W.nsIn K mainGlobals "list" = some none)
    (z_max : PySem.W.nsIn K mainGlobals "max" = some none)
    (z_min : PySem.W.nsIn K mainGlobals "min" = some none)
    (z_range : PySem.W.nsIn K mainGlobals "range" = some none)
    (z_reversed : PySem.W.nsIn K mainGlobals "reversed" = some none)
    (z_sorted : PySem.W.nsIn K mainGlobals "sorted" = some none)
    (z_tuple : PySem.W.nsIn K mainGlobals "tuple" = some none)
    (z_zip : PySem.W.nsIn K mainGlobals "zip" = some none)
    : ∃ fd : FuncData, (∀ (s : Shared) (v : Value), BindsTo s fd ⟨[v], []⟩ [("script", v)]) ∧ ∀ base : Heap, K.In base → base.Ns mainGlobals mg → FnOk l.prog w K mg base CX0 7 fa fd ["script"] (spOf K [.rd] .fz lawS) := by
  have e := hfa.symm.trans (PySem.W.mg_of X G a_law)
  cases e
  have T : TX mg := ⟨PySem.W.mg_none_of X G z_bool, PySem.W.mg_none_of X G z_enumerate, PySem.W.mg_none_of X G z_int, PySem.W.mg_none_of X G z_isinstance, PySem.W.mg_none_of X G z_len, PySem.W.mg_none_of X G z_list, PySem.W.mg_none_of X G z_max, PySem.W.mg_none_of X G z_min, PySem.W.mg_none_of X G z_range, PySem.W.mg_none_of X G z_reversed, PySem.W.mg_none_of X G z_sorted, PySem.W.mg_none_of X G z_tuple, PySem.W.mg_none_of X G z_zip⟩
  refine ⟨PySem.W.fnOf "law" "law" (defArgs s_law) (defBody s_law) (defScope s_law) .none kV_law dc_law pm_law an_law cd_law ct_law, fun s v => .of_eq rfl, fun base _ _ => ?_⟩
  have H_l_pool := g_l_pool (P := l.prog) (w := w) (K := K) (mg := mg) (base := base) T (fun_mk (st := s_l_pool) l_l_pool c_l_pool k_l_pool') (PySem.W.mg_of X G a_l_pool)
  have H_l_next := g_l_next (P := l.prog) (w := w) (K := K) (mg := mg) (base := base) T (fun_mk (st := s_l_next) l_l_next c_l_next k_l_next') (PySem.W.mg_of X G a_l_next)
  have H_l_shuffled := g_l_shuffled (P := l.prog) (w := w) (K := K) (mg := mg) (base := base) T H_l_next (fun_mk (st := s_l_shuffled) l_l_shuffled c_l_shuffled k_l_shuffled') (PySem.W.mg_of X G a_l_shuffled)
  have H_l_pair := g_l_pair (P := l.prog) (w := w) (K := K) (mg := mg) (base := base) T (fun_mk (st := s_l_pair) l_l_pair c_l_pair k_l_pair') (PySem.W.mg_of X G a_l_pair)
  have H_l_web := g_l_web (P := l.prog) (w := w) (K := K) (mg := mg) (base := base) T H_l_next H_l_shuffled H_l_pair (fun_mk (st := s_l_web) l_l_web c_l_web k_l_web') (PySem.W.mg_of X G a_l_web)
  have H_l_turned := g_l_turned (P := l.prog) (w := w) (K := K) (mg := mg) (base := base) T (fun_mk (st := s_l_turned) l_l_turned c_l_turned k_l_turned') (PySem.W.mg_of X G a_l_turned)
  have H_l_flows := g_l_flows (P := l.prog) (w := w) (K := K) (mg := mg) (base := base) T (fun_mk (st := s_l_flows) l_l_flows c_l_flows k_l_flows') (PySem.W.mg_of X G a_l_flows)
  have H_l_reached := g_l_reached (P := l.prog) (w := w) (K := K) (mg := mg) (base := base) T (fun_mk (st := s_l_reached) l_l_reached c_l_reached k_l_reached') (PySem.W.mg_of X G a_l_reached)
  have H_l_free := g_l_free (P := l.prog) (w := w) (K := K) (mg := mg) (base := base) T H_l_flows H_l_reached (fun_mk (st := s_l_free) l_l_free c_l_free k_l_free') (PySem.W.mg_of X G a_l_free)
  have H_l_made_road := g_l_made_road (P := l.prog) (w := w) (K := K) (mg := mg) (base := base) T H_l_free H_l_next H_l_turned (fun_mk (st := s_l_made_road) l_l_made_road c_l_made_road k_l_made_road') (PySem.W.mg_of X G a_l_made_road)
  have H_l_some_otherwise := g_l_some_otherwise (P := l.prog) (w := w) (K := K) (mg := mg) (base := base) T H_l_next (fun_mk (st := s_l_some_otherwise) l_l_some_otherwise c_l_some_otherwise k_l_some_otherwise') (PySem.W.mg_of X G a_l_some_otherwise)
  have H_turned := g_turned (P := l.prog) (w := w) (K := K) (mg := mg) (base := base) T (fun_mk (st := s_turned) l_turned c_turned k_turned') (PySem.W.mg_of X G a_turned)
  have H_arrows := g_arrows (P := l.prog) (w := w) (K := K) (mg := mg) (base := base) T (fun_mk (st := s_arrows) l_arrows c_arrows k_arrows') (PySem.W.mg_of X G a_arrows)
  have H_before := g_before (P := l.prog) (w := w) (K := K) (mg := mg) (base := base) T (fun_mk (st := s_before) l_before c_before k_before') (PySem.W.mg_of X G a_before)
  have H_round_in := g_round_in (P := l.prog) (w := w) (K := K) (mg := mg) (base := base) T H_before (fun_mk (st := s_round_in) l_round_in c_round_in k_round_in') (PySem.W.mg_of X G a_round_in)
  have H_looked := g_looked (P := l.prog) (w := w) (K := K) (mg := mg) (base := base) T H_arrows H_before H_round_in (fun_mk (st := s_looked) l_looked c_looked k_looked') (PySem.W.mg_of X G a_looked)
  have H_is_fall := g_is_fall (P := l.prog) (w := w) (K := K) (mg := mg) (base := base) T H_looked (fun_mk (st := s_is_fall) l_is_fall c_is_fall k_is_fall') (PySem.W.mg_of X G a_is_fall)
  have H_is_free := g_is_free (P := l.prog) (w := w) (K := K) (mg := mg) (base := base) T H_is_fall H_turned (fun_mk (st := s_is_free) l_is_free c_is_free k_is_free') (PySem.W.mg_of X G a_is_free)
  have H_road_right := g_road_right (P := l.prog) (w := w) (K := K) (mg := mg) (base := base) T H_is_free H_turned (fun_mk (st := s_road_right) l_road_right c_road_right k_road_right') (PySem.W.mg_of X G a_road_right)
  have H_l_fall := g_l_fall (P := l.prog) (w := w) (K := K) (mg := mg) (base := base) T H_l_shuffled (fun_mk (st := s_l_fall) l_l_fall c_l_fall k_l_fall') (PySem.W.mg_of X G a_l_fall)
  have H_l_there_and_back := g_l_there_and_back (P := l.prog) (w := w) (K := K) (mg := mg) (base := base) T H_l_next H_l_turned H_l_free (fun_mk (st := s_l_there_and_back) l_l_there_and_back c_l_there_and_back k_l_there_and_back') (PySem.W.mg_of X G a_l_there_and_back)
  have H_l_one_otherwise := g_l_one_otherwise (P := l.prog) (w := w) (K := K) (mg := mg) (base := base) T (fun_mk (st := s_l_one_otherwise) l_l_one_otherwise c_l_one_otherwise k_l_one_otherwise') (PySem.W.mg_of X G a_l_one_otherwise)
  have H_l_is_fall := g_l_is_fall (P := l.prog) (w := w) (K := K) (mg := mg) (base := base) T H_l_flows (fun_mk (st := s_l_is_fall) l_l_is_fall c_l_is_fall k_l_is_fall') (PySem.W.mg_of X G a_l_is_fall)
  have H_l_is_road := g_l_is_road (P := l.prog) (w := w) (K := K) (mg := mg) (base := base) T H_l_is_fall H_l_turned (fun_mk (st := s_l_is_road) l_l_is_road c_l_is_road k_l_is_road') (PySem.W.mg_of X G a_l_is_road)
  exact g_law T H_l_pool H_l_next H_l_web H_l_fall H_l_made_road H_l_there_and_back H_l_some_otherwise H_l_one_otherwise H_road_right H_l_is_road (fun_mk (st := s_law) l_law c_law k_law')
end K19
end G7
open PySem PySem.W PyProof.Rows
set_option maxRecDepth 100000 in
set_option maxHeartbeats 0 in
theorem PySem.Challenge.cw_rillturn_k19_roads_judged_holds : PySem.Challenge.rw_rillturn_k19_roads_judged.Holds := by
  w_on; o_law; k_head; (case hw => w_witness2)
  k_fill
  refine G7.law_walk (l := PySem.Challenge.rw_rillturn_k19_roads_judged) (k := 7) rfl rfl ⟨rfl, by decide, by decide⟩ (fun w h Y => PySem.W.kIn_of Y) ?NL ?F
  case NL =>
    intro w
    first | rfl | decide +kernel
  case F =>
    intro w mg fa h KX G hmg
    refine' G7.K19.all_mk KX G hmg ?a_l_pool ?l_l_pool ?c_l_pool ?k_l_pool' ?a_l_next ?l_l_next ?c_l_next ?k_l_next' ?a_l_shuffled ?l_l_shuffled ?c_l_shuffled ?k_l_shuffled' ?a_l_pair ?l_l_pair ?c_l_pair ?k_l_pair' ?a_l_web ?l_l_web ?c_l_web ?k_l_web' ?a_l_turned ?l_l_turned ?c_l_turned ?k_l_turned' ?a_l_flows ?l_l_flows ?c_l_flows ?k_l_flows' ?a_l_reached ?l_l_reached ?c_l_reached ?k_l_reached' ?a_l_free ?l_l_free ?c_l_free ?k_l_free' ?a_l_made_road ?l_l_made_road ?c_l_made_road ?k_l_made_road' ?a_l_some_otherwise ?l_l_some_otherwise ?c_l_some_otherwise ?k_l_some_otherwise' ?a_turned ?l_turned ?c_turned ?k_turned' ?a_arrows ?l_arrows ?c_arrows ?k_arrows' ?a_before ?l_before ?c_before ?k_before' ?a_round_in ?l_round_in ?c_round_in ?k_round_in' ?a_looked ?l_looked ?c_looked ?k_looked' ?a_is_fall ?l_is_fall ?c_is_fall ?k_is_fall' ?a_is_free ?l_is_free ?c_is_free ?k_is_free' ?a_road_right ?l_road_right ?c_road_right ?k_road_right' ?a_l_fall ?l_l_fall ?c_l_fall ?k_l_fall' ?a_l_there_and_back ?l_l_there_and_back ?c_l_there_and_back ?k_l_there_and_back' ?a_l_one_otherwise ?l_l_one_otherwise ?c_l_one_otherwise ?k_l_one_otherwise' ?a_l_is_fall ?l_l_is_fall ?c_l_is_fall ?k_l_is_fall' ?a_l_is_road ?l_l_is_road ?c_l_is_road ?k_l_is_road' ?a_law ?l_law ?c_law ?k_law' ?z_bool ?z_enumerate ?z_int ?z_isinstance ?z_len ?z_list ?z_max ?z_min ?z_range ?z_reversed ?z_sorted ?z_tuple ?z_zip
    (case a_l_pool => k_is)
    (case l_l_pool => k_is)
    (case c_l_pool => k_is)
    (case k_l_pool' => k_is)
    (case a_l_next => k_is)
    (case l_l_next => k_is)
    (case c_l_next => k_is)
    (case k_l_next' => k_is)
    (case a_l_shuffled => k_is)
    (case l_l_shuffled => k_is)
    (case c_l_shuffled => k_is)
    (case k_l_shuffled' => k_is)
    (case a_l_pair => k_is)
    (case l_l_pair => k_is)
    (case c_l_pair => k_is)
    (case k_l_pair' => k_is)
    (case a_l_web => k_is)
    (case l_l_web => k_is)
    (case c_l_web => k_is)
    (case k_l_web' => k_is)
    (case a_l_turned => k_is)
    (case l_l_turned => k_is)
    (case c_l_turned => k_is)
    (case k_l_turned' => k_is)
    (case a_l_flows => k_is)
    (case l_l_flows => k_is)
    (case c_l_flows => k_is)
    (case k_l_flows' => k_is)
    (case a_l_reached => k_is)
    (case l_l_reached => k_is)
    (case c_l_reached => k_is)
    (case k_l_reached' => k_is)
    (case a_l_free => k_is)
    (case l_l_free => k_is)
    (case c_l_free => k_is)
    (case k_l_free' => k_is)
    (case a_l_made_road => k_is)
    (case l_l_made_road => k_is)
    (case c_l_made_road => k_is)
    (case k_l_made_road' => k_is)
    (case a_l_some_otherwise => k_is)
    (case l_l_some_otherwise => k_is)
    (case c_l_some_otherwise => k_is)
    (case k_l_some_otherwise' => k_is)
    (case a_turned => k_is)
    (case l_turned => k_is)
    (case c_turned => k_is)
    (case k_turned' => k_is)
    (case a_arrows => k_is)
    (case l_arrows => k_is)
    (case c_arrows => k_is)
    (case k_arrows' => k_is)
    (case a_before => k_is)
    (case l_before => k_is)
    (case c_before => k_is)
    (case k_before' => k_is)
    (case a_round_in => k_is)
    (case l_round_in => k_is)
    (case c_round_in => k_is)
    (case k_round_in' => k_is)
    (case a_looked => k_is)
    (case l_looked => k_is)
    (case c_looked => k_is)
    (case k_looked' => k_is)
    (case a_is_fall => k_is)
    (case l_is_fall => k_is)
    (case c_is_fall => k_is)
    (case k_is_fall' => k_is)
    (case a_is_free => k_is)
    (case l_is_free => k_is)
    (case c_is_free => k_is)
    (case k_is_free' => k_is)
    (case a_road_right => k_is)
    (case l_road_right => k_is)
    (case c_road_right => k_is)
    (case k_road_right' => k_is)
    (case a_l_fall => k_is)
    (case l_l_fall => k_is)
    (case c_l_fall => k_is)
    (case k_l_fall' => k_is)
    (case a_l_there_and_back => k_is)
    (case l_l_there_and_back => k_is)
    (case c_l_there_and_back => k_is)
    (case k_l_there_and_back' => k_is)
    (case a_l_one_otherwise => k_is)
    (case l_l_one_otherwise => k_is)
    (case c_l_one_otherwise => k_is)
    (case k_l_one_otherwise' => k_is)
    (case a_l_is_fall => k_is)
    (case l_l_is_fall => k_is)
    (case c_l_is_fall => k_is)
    (case k_l_is_fall' => k_is)
    (case a_l_is_road => k_is)
    (case l_l_is_road => k_is)
    (case c_l_is_road => k_is)
    (case k_l_is_road' => k_is)
    (case a_law => k_is)
    (case l_law => k_is)
    (case c_law => k_is)
    (case k_law' => k_is)
    (case z_bool => k_is)
    (case z_enumerate => k_is)
    (case z_int => k_is)
    (case z_isinstance => k_is)
    (case z_len => k_is)
    (case z_list => k_is)
    (case z_max => k_is)
    (case z_min => k_is)
    (case z_range => k_is)
    (case z_reversed => k_is)
    (case z_sorted => k_is)
    (case z_tuple => k_is)
    (case z_zip => k_is)
