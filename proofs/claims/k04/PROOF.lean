import PyProof.Rows.All
import HandS.ForMost
import HandS.ExcIs
import HandS.Zip
import HandS.Rev
import HandS.Deep
import HandS.TupAny
import HandS.SortInts
import HandS.Style
import HandS.IsInst
import HandS.Conv
import HandS.Exc
import HandS.ExcCtx
import HandS.HotCalls
import HandS.ExcValue
import HandS.ExcOwn
import HandS.TryOnly
import HandS.WordsExc
import HandS.Strs
import HandS.Dict
import HandS.SortRule
import KE.DatumOrd
import HandS.DictTup
import KE.KDictSum
import HandS.Iter
import HandS.TupLen
import HandS.WordsDict
import HandS.SetFor
import HandS.Remove
import KE.GoesMore
import KE.KDictZip
import HandS.NamedTupSort
import HandS.TupMul
import HandS.TupLe
import PyProof.StrOps2
import HandS.Wide
import HandS.SortKw
import PySem.Challenge.RW_rillturn_k04_drawn_tied_untied
set_option Elab.async false
set_option linter.all false
namespace G7
open PySem

abbrev D := PyData
abbrev En := List (Option D)
abbrev WE := En → (D → En → Prop) → Prop
abbrev WT := En → (Bool → En → Prop) → Prop
abbrev WA := En → (List D → En → Prop) → Prop
abbrev WI := En → (List D → En → Prop) → Prop
structure WD where
  nx : En → Prop
  rt : D → En → Prop
  bk : En → Prop := fun _ => False
  ct : En → Prop := fun _ => False
abbrev WS := WD → En → Prop
abbrev WG := D → En → Option En
/-- what a def is asked: arguments, what is wanted of the answer -/
abbrev FS := List D → (D → Prop) → Prop

def lim : Nat := 1000000

def wVar (i : Nat) : WE := fun e Q => ∃ d, e[i]? = some (some d) ∧ Q d e
def wC (d : D) : WE := fun e Q => Q d e
def wOp1 (f : D → Option D) (a : WE) : WE := fun e Q => a e fun x e1 => ∃ z, f x = some z ∧ Q z e1
def wOp2 (f : D → D → Option D) (a b : WE) : WE := fun e Q => a e fun x e1 => b e1 fun y e2 => ∃ z, f x y = some z ∧ Q z e2
def waNil : WA := fun e Q => Q [] e
def waCons (a : WE) (r : WA) : WA := fun e Q => a e fun x e1 => r e1 fun xs e2 => Q (x :: xs) e2
def wList (a : WA) : WE := fun e Q => a e fun xs e1 => xs.length ≤ lim ∧ Q (.list xs) e1
def wTup (a : WA) : WE := fun e Q => a e fun xs e1 => xs.length ≤ lim ∧ Q (.tuple xs) e1
def wCall (S : FS) (a : WA) : WE := fun e Q => a e fun xs e1 => S xs fun r => Q r e1
def wBlt (f : List D → Option D) (a : WA) : WE := fun e Q => a e fun xs e1 => ∃ z, f xs = some z ∧ Q z e1
/-- a slice: lower and upper ends may lie open -/
abbrev WO := En → (Option Int → En → Prop) → Prop
def woN : WO := fun e Q => Q none e
def woS (a : WE) : WO := fun e Q => a e fun x e1 => ∃ i, x = .int i ∧ Q (some i) e1
def wSl (f : D → Option Int → Option Int → Option D) (a : WE) (lo hi : WO) : WE := fun e Q => a e fun x e1 => lo e1 fun l e2 => hi e2 fun h e3 => ∃ z, f x l h = some z ∧ Q z e3
def tVal (a : WE) : WT := fun e Q => a e fun x e1 => ∃ b, x = .bool b ∧ Q b e1
def tAnd (s t : WT) : WT := fun e Q => s e fun b e1 => if b = true then t e1 Q else Q false e1
def tOr (s t : WT) : WT := fun e Q => s e fun b e1 => if b = true then Q true e1 else t e1 Q
def tNot (s : WT) : WT := fun e Q => s e fun b e1 => Q (!b) e1
def wAnd (a b : WE) : WE := fun e Q => a e fun x e1 => ∃ c, x = .bool c ∧ if c = true then b e1 Q else Q (.bool false) e1
def wOr (a b : WE) : WE := fun e Q => a e fun x e1 => ∃ c, x = .bool c ∧ if c = true then Q (.bool true) e1 else b e1 Q
def wNot (a : WE) : WE := fun e Q => a e fun x e1 => ∃ c, x = .bool c ∧ Q (.bool (!c)) e1
def wIfE (t : WT) (a b : WE) : WE := fun e Q => t e fun c e1 => if c = true then a e1 Q else b e1 Q
/-- a op1 b op2 c -/
def wChain (f g : D → D → Option D) (a b c : WE) : WE := fun e Q => a e fun x e1 => b e1 fun y e2 => ∃ k, f x y = some (.bool k) ∧
  if k = true then c e2 fun z e3 => ∃ r, g y z = some r ∧ Q r e3 else Q (.bool false) e2
def wChain3 (f g h : D → D → Option D) (a b c d : WE) : WE := fun e Q => a e fun x e1 => b e1 fun y e2 => ∃ k, f x y = some (.bool k) ∧
  if k = true then c e2 fun z e3 => ∃ k2, g y z = some (.bool k2) ∧ (if k2 = true then d e3 fun u e4 => ∃ r, h z u = some r ∧ Q r e4 else Q (.bool false) e3) else Q (.bool false) e2
def wNil : WS := fun W e => W.nx e
def wSeq (a b : WS) : WS := fun W e => a { W with nx := fun e1 => b W e1 } e
def wAsg (i : Nat) (a : WE) : WS := fun W e => a e fun x e1 => W.nx (e1.set i (some x))
def wAsgG (g : WG) (a : WE) : WS := fun W e => a e fun x e1 => ∃ e2, g x e1 = some e2 ∧ W.nx e2
def wExpr (a : WE) : WS := fun W e => a e fun _ e1 => W.nx e1
def wRet (a : WE) : WS := fun W e => a e W.rt
def wRetN : WS := fun W e => W.rt .none e
def wIf (t : WT) (a b : WS) : WS := fun W e => t e fun c e1 => if c = true then a W e1 else b W e1
def wNever : WS := fun _ _ => False
def wBreak : WS := fun W e => W.bk e
def wCont : WS := fun W e => W.ct e
def forL (g : WG) (b : WS) (W : WD) : List D → En → Prop
  | [], e => W.nx e
  | x :: xs, e => ∃ e1, g x e = some e1 ∧ b { W with nx := forL g b W xs, ct := forL g b W xs, bk := W.nx } e1
def wFor (it : WI) (g : WG) (b : WS) : WS := fun W e => it e fun xs e1 => forL g b W xs e1
def gN (i : Nat) : WG := fun x e => some (e.set i (some x))
def gAll : List WG → List D → En → Option En
  | [], [], e => some e
  | g :: gs, x :: xs, e => (g x e).bind fun e1 => gAll gs xs e1
  | _, _, _ => none
def gT (gs : List WG) : WG := fun x e => match x with
  | .tuple xs => gAll gs xs e
  | _ => none
def wp (e : En) : List Nat → En
  | [] => e
  | v :: vs => (wp e vs).set v none
def back (e e2 : En) : List Nat → En
  | [] => e2
  | v :: vs => (back e e2 vs).set v ((e[v]?).getD none)
def compL (g : WG) (vs : List Nat) (t : WT) (b : WE) (Q : List D → En → Prop) : List D → List D → En → Prop
  | [], acc, e => Q acc e
  | x :: xs, acc, e => ∃ e1, g x e = some e1 ∧ t e1 fun c e2 => if c = true then b e2 fun y e3 => compL g vs t b Q xs (acc ++ [y]) (wp e3 vs) else compL g vs t b Q xs acc (wp e2 vs)
def wComp (it : WI) (g : WG) (vs : List Nat) (t : WT) (b : WE) : WE := fun e Q => it e fun xs e1 => compL g vs t b (fun acc e2 => Q (.list acc) (back e1 e2 vs)) xs [] (wp e1 vs)
def tYes : WT := fun e Q => Q true e
def seqD : D → Option (List D)
  | .list xs => some xs
  | .tuple xs => some xs
  | .dict [(.none, .tuple xs)] => some xs
  | _ => none
def rangeD (lo hi : Int) : List D := (List.range (hi - lo).toNat).map fun (i : Nat) => .int (lo + (i : Int))
def wiSeq (a : WE) : WI := fun e Q => a e fun x e1 => ∃ xs, seqD x = some xs ∧ Q xs e1
def wiRg1 (a : WE) : WI := fun e Q => a e fun x e1 => ∃ n : Int, x = .int n ∧ -(lim : Int) ≤ n ∧ n ≤ (lim : Int) ∧ Q (rangeD 0 n) e1
def wiRg2 (a b : WE) : WI := fun e Q => a e fun x e1 => b e1 fun y e2 => ∃ m n : Int, x = .int m ∧ y = .int n ∧ -(lim : Int) ≤ m ∧ m ≤ lim ∧ -(lim : Int) ≤ n ∧ n ≤ (lim : Int) ∧ Q (rangeD m n) e2
def zipD (xs ys : List D) : List D := List.zipWith (fun x y => .tuple [x, y]) xs ys
def enumD (xs : List D) : List D := zipD (rangeD 0 xs.length) xs
def wiEnum (a : WE) : WI := fun e Q => a e fun x e1 => ∃ xs, seqD x = some xs ∧ Q (enumD xs) e1
def wiRev (a : WE) : WI := fun e Q => a e fun x e1 => ∃ xs, seqD x = some xs ∧ Q xs.reverse e1
def ixN (n : Nat) (i : Int) : Option Nat := if 0 ≤ i then (if i < n then some i.toNat else none) else if -(n : Int) ≤ i then some (i + n).toNat else none
/-- slot i holds a list: f tells its new content and the value of the expression -/
def wMut (i : Nat) (f : List D → List D → Option (D × List D)) (a : WA) : WE := fun e Q => (∃ xs, e[i]? = some (some (.list xs))) ∧ a e fun ys e1 => ∃ xs z xs', e1[i]? = some (some (.list xs)) ∧ f xs ys = some (z, xs') ∧ Q z (e1.set i (some (.list xs')))

/-- slot i holds a list, an item of which is stored -/
def wSetIx (i : Nat) (v ix : WE) : WS := fun W e => v e fun y e1 => (∃ xs, e1[i]? = some (some (.list xs))) ∧ ix e1 fun j e2 => ∃ k xs m, j = .int k ∧ e2[i]? = some (some (.list xs)) ∧ ixN xs.length k = some m ∧ W.nx (e2.set i (some (.list (xs.set m y))))

def okMul (i j : Int) : Bool := decide ((-(2 ^ 64) < i ∧ i < 2 ^ 64) ∨ (-(2 ^ 64) < j ∧ j < 2 ^ 64))
def addD : D → D → Option D
  | .int a, .int b => some (.int (a + b))
  | .list a, .list b => if a.length + b.length ≤ lim then some (.list (a ++ b)) else none
  | .tuple a, .tuple b => if a.length + b.length ≤ lim then some (.tuple (a ++ b)) else none
  | _, _ => none
def subD : D → D → Option D
  | .int a, .int b => some (.int (a - b))
  | _, _ => none
def fdivD : D → D → Option D
  | .int a, .int b => if 0 < b ∧ b < 1073741824 then some (.int (a / b)) else none
  | _, _ => none
def modD : D → D → Option D
  | .int a, .int b => if 0 < b then some (.int (a % b)) else none
  | _, _ => none
def powD : D → D → Option D
  | .int a, .int b => if 0 ≤ b ∧ b ≤ 1000000 ∧ a.natAbs < 2 ^ 64 then some (.int (a ^ b.toNat)) else none
  | _, _ => none
def negD : D → Option D
  | .int a => some (.int (-a))
  | _ => none
def icmp (p : Int → Int → Bool) : D → D → Option D
  | .int a, .int b => some (.bool (p a b))
  | _, _ => none
def leD := icmp fun a b => decide (a ≤ b)
def gtD := icmp fun a b => decide (b < a)
def geD := icmp fun a b => decide (b ≤ a)
def intsD : List D → Option (List Int)
  | [] => some []
  | .int i :: r => (intsD r).map (i :: ·)
  | _ => none
/-- < of ints, of tuples of ints -/
def ltD : D → D → Option D
  | .int a, .int b => some (.bool (decide (a < b)))
  | .tuple a, .tuple b => (intsD a).bind fun xs => (intsD b).map fun ys => .bool (HT.lexLt xs ys)
  | _, _ => none
/-- data without dicts, texts short: may be compared -/
def okD (d : D) : Bool := SeqAt.shaped d
def eqD (x y : D) : Option D := if okD x = true ∧ okD y = true then some (.bool (PyData.eqv x y)) else none
def neD (x y : D) : Option D := if okD x = true ∧ okD y = true then some (.bool (!PyData.eqv x y)) else none
def inD (x y : D) : Option D := match seqD y with
  | some ys => if okD x = true ∧ okD y = true then some (.bool (ys.any fun z => PyData.eqv z x)) else none
  | none => none
def notInD (x y : D) : Option D := match seqD y with
  | some ys => if okD x = true ∧ okD y = true then some (.bool (!(ys.any fun z => PyData.eqv z x))) else none
  | none => none
def isNoneD : D → Option D
  | .none => some (.bool true)
  | _ => some (.bool false)
def notNoneD : D → Option D
  | .none => some (.bool false)
  | _ => some (.bool true)
def ixD : D → D → Option D
  | .list xs, .int i => (ixN xs.length i).bind fun j => xs[j]?
  | .tuple xs, .int i => (ixN xs.length i).bind fun j => xs[j]?
  | .dict [(.none, .tuple xs)], .int i => (ixN xs.length i).bind fun j => xs[j]?
  | _, _ => none
def cut (xs : List D) (lo hi : Option Int) : List D := (xs.drop (HT.sIx xs.length 0 lo)).take (HT.sIx xs.length xs.length hi - HT.sIx xs.length 0 lo)
def slD : D → Option Int → Option Int → Option D
  | .list xs, lo, hi => some (.list (cut xs lo hi))
  | .tuple xs, lo, hi => some (.tuple (cut xs lo hi))
  | .dict [(.none, .tuple xs)], lo, hi => some (if HT.sIx xs.length 0 lo = 0 ∧ HT.sIx xs.length xs.length hi = xs.length then .dict [(.none, .tuple xs)] else .tuple (cut xs lo hi))
  | _, _, _ => none
def lenD : List D → Option D
  | [.list xs] => some (.int xs.length)
  | [.tuple xs] => some (.int xs.length)
  | [.dict [(.none, .tuple xs)]] => some (.int xs.length)
  | _ => none
def tupD : List D → Option D
  | [.list xs] => some (.tuple xs)
  | [.tuple xs] => some (.tuple xs)
  | [.dict [(.none, .tuple xs)]] => some (.dict [(.none, .tuple xs)])
  | _ => none
def lstD : List D → Option D
  | [.list xs] => some (.list xs)
  | [.tuple xs] => some (.list xs)
  | [.dict [(.none, .tuple xs)]] => some (.list xs)
  | _ => none
def max2D : List D → Option D
  | [.int a, .int b] => some (.int (if b > a then b else a))
  | _ => none
def min2D : List D → Option D
  | [.int a, .int b] => some (.int (if b < a then b else a))
  | _ => none
def intD : List D → Option D
  | [.int a] => some (.int a)
  | [.bool b] => some (.int (if b then 1 else 0))
  | _ => none
def boolsD : List D → Option (List Bool)
  | [] => some []
  | .bool i :: r => (boolsD r).map (i :: ·)
  | _ => none
def allD : List D → Option D
  | [.list xs] => (boolsD xs).map fun bs => .bool (bs.all id)
  | _ => none
def anyD : List D → Option D
  | [.list xs] => (boolsD xs).map fun bs => .bool (bs.any id)
  | _ => none
def appendF (xs ys : List D) : Option (D × List D) := match ys with
  | [y] => if xs.length < lim then some (.none, xs ++ [y]) else none
  | _ => none
def popAtF (xs ys : List D) : Option (D × List D) := match ys with
  | [.int i] => (ixN xs.length i).bind fun j => (xs[j]?).map fun y => (y, xs.eraseIdx j)
  | _ => none
def extendF (xs ys : List D) : Option (D × List D) := match ys with
  | [.list zs] => if xs.length + zs.length ≤ lim then some (.none, xs ++ zs) else none
  | _ => none
end G7

set_option maxRecDepth 100000
namespace G7
open PySem PySem.Spec PyProof.Rows L2

abbrev St := L2.St
inductive SK where | x (a : Addr) (cn : Str) | v | r | o | q | l | w | p | f | s | h | hs
  deriving DecidableEq
/-- kinds whose thing is nobody else's to take -/
def isQ : SK → Bool
  | .q => true
  | .l => true
  | _ => false
inductive RK where | fz | rd | nw | ow (i : Nat) | pl | np
  deriving DecidableEq
def RK.rdable : RK → Bool
  | .pl => false
  | .np => false
  | _ => true
structure Rg where
  O : Addr → Prop
  P : Addr → Prop
  I : Addr → Prop
  al : Nat → Option Addr
def Rg.own (g : Rg) (a : Addr) : Prop := g.O a ∨ ∃ i, g.al i = some a

/-- a tuple of the written part -/
def KTup (K : PySem.W.Frag) (a : Addr) (xs : List V) : Prop :=
  ∃ (o : Obj) (its : Array Value) (n : Nat), K.lookup a = some o ∧ o.cls = .type "tuple" ∧ o.data = .seq its n ∧ its.size ≤ sizeLine ∧ Vals xs its.toList
def kD : Key → D
  | .inl i => .int i
  | .inr x => .str x
def tD (k : List Key) : D := .tuple (k.map kD)
/-- a tuple of which the whole object is known (its methods may be called) -/
def xtD (ds : List D) : D := .dict [(.none, .tuple ds)]
/-- a tuple that is laid as a key of a dict -/
abbrev ktD (ds : List D) : D := .dict [(.bool true, .tuple ds)]
/-- an exception held as a value -/
abbrev exV (cn : Str) : D := .dict [(.bool false, .str cn)]
def nmCls (cn : Str) (o : Obj) : Bool := match o.data with
  | .cls cd => cd.name == cn
  | _ => false
/-- the first class of that name -/
def clsOf (K : PySem.W.Frag) (cn : Str) : Option Addr := (K.find? fun p => nmCls cn p.2).map (·.1)
/-- a thing that is told by its address alone: what stands there is told by the store -/
abbrev hD (a : Addr) : D := .dict [(.bool false, .int (a : Int))]
/-- where that holds, at a stands an exception of the class at C -/
def ExcAt (C a : Addr) (φ : Heap → Prop) : Prop := ∀ h, φ h → ∃ (oe : Obj) (vs : Array Value), h.get? a = some oe ∧ oe.cls = .ref C ∧ oe.dict = none ∧ oe.data = .fields vs
/-- what is known of such a class -/
structure ExK (K : PySem.W.Frag) (cn : Str) (C : Addr) : Prop where
  cls : clsOf K cn = some C
  kit : ExcC K C
  typ : (["NoneType", "bool", "int", "str", "list", "tuple", "dict"].all fun t => PySem.W.kitOne K (.ref C) (.type t) == some false) = true
/-- whether an empty tuple may be a key; if not, it may be told of a frozen one -/
def tupX : Bool := false
/-- a tuple that is no key may be told of a frozen one -/
def frzOk0 : List D → Bool
  | [] => !tupX
  | .tuple _ :: _ => true
  | _ => false
/-- whether new tuples of so many items are laid with their objects (they are no keys then) -/
def tupF (_ : Nat) : Bool := false
/-- how many items a tuple may have that is a key -/
def keyLen (_ : Nat) : Bool := true
abbrev KeySafe : Prop := ∀ n, keyLen n = true → tupF n = false
def frzOk (ds : List D) : Bool := tupF ds.length || frzOk0 ds
def plOk (ds : List D) : Bool := !tupF ds.length
theorem plOkF {ds : List D} (hF : tupF ds.length = false) : plOk ds = true := by
  unfold plOk
  rw [hF]; rfl
def RdT (H : Hp) (a : Addr) (u : HO) (ds : List D) : Prop := (plOk ds = true ∧ H a = some u) ∨ (frzOk ds = true ∧ ∃ o, H a = some (.frz o u) ∧ o.dict = none)
/-- a new tuple as it is laid -/
def MkT (o : HO) (xs : List V) : Prop := if tupF xs.length = true then ∃ ob : Obj, ob.dict = none ∧ o = .frz ob (.tup xs) else o = .tup xs
theorem MkT.rdT {o : HO} {xs : List V} {H : Hp} {a : Addr} {ds : List D} (m : MkT o xs) (hl : xs.length = ds.length) (e : H a = some o) : RdT H a (.tup xs) ds := by
  unfold MkT at m
  split at m
  · next h =>
    obtain ⟨ob, hd, rfl⟩ := m
    exact .inr ⟨by unfold frzOk; rw [← hl, h]; rfl, ob, e, hd⟩
  · next h =>
    subst m
    exact .inl ⟨plOkF (by rw [← hl]; simpa using h), e⟩
theorem MkT.nl {o : HO} {xs ts : List V} (m : MkT o xs) : o ≠ .lst ts := fun e => by
  unfold MkT at m
  split at m
  · obtain ⟨ob, _, rfl⟩ := m; cases e
  · subst m; cases e
section
variable {X : Cx}
/-- a tuple laid -/
theorem mk_laid {pins : List (Addr × Obj)} {σ : St} {H : Hp} {s : Shared} {xs : List V} {its : List Value} {ob : Obj} (I : Inv X pins σ H s) (r : Vals xs its) (z : xs.length ≤ sizeLine) (ho : ob = { cls := .type "tuple", data := .seq its.toArray }) :
    ∃ o, MkT o xs ∧ Inv X pins σ (upd H s.heap.objs.size o) { s with heap := s.heap.push ob } := by
  subst ho
  have new : ∀ H' : Hp, ObjOk X.prog X.w H' (s.heap.push { cls := .type "tuple", data := .seq its.toArray }) s.heap.objs.size (.tup xs) := fun _ => ⟨z, its, r, ⟨_, Heap.get?_push_size _ rfl, rfl, _, rfl⟩⟩
  by_cases hF : tupF xs.length = true
  · refine ⟨.frz { cls := .type "tuple", data := .seq its.toArray } (.tup xs), ?_, I.laid (t' := s.toks) (fun _ _ q => Heap.get?_push_of_some _ q) (Nat.le_refl _) ⟨Heap.get?_push_size _ rfl, new _⟩⟩
    unfold MkT
    rw [if_pos hF]
    exact ⟨_, rfl, rfl⟩
  · refine ⟨.tup xs, ?_, I.laid (t' := s.toks) (fun _ _ q => Heap.get?_push_of_some _ q) (Nat.le_refl _) (new _)⟩
    unfold MkT
    rw [if_neg hF]
end

section
variable (K : PySem.W.Frag) (H : Hp) (S : Addr → Prop)
mutual
inductive Rep (K : PySem.W.Frag) (H : Hp) (S : Addr → Prop) : V → D → Prop
  | non : Rep K H S .non .none
  | bl (b : Bool) : Rep K H S (.bl b) (.bool b)
  | int (i : Int) : Rep K H S (.int i) (.int i)
  | str (x : Str) : Rep K H S (.str x) (.str x)
  | lst {a : Addr} {xs : List V} {ds : List D} : ¬ S a → H a = some (.lst xs) → xs.length ≤ sizeLine → RepAll K H S xs ds → Rep K H S (.ref a) (.list ds)
  | tup {a : Addr} {xs : List V} {ds : List D} : ¬ S a → RdT H a (.tup xs) ds → xs.length ≤ sizeLine → RepAll K H S xs ds → Rep K H S (.ref a) (.tuple ds)
  | dK {a : Addr} {kvs : List (Key × V)} {ds : List D} : ¬ S a → H a = some (.dK kvs) → RepAll K H S (kvs.map (·.2)) ds → Rep K H S (.ref a) (.dict ((kvs.map fun p => kD p.1).zip ds))
  | dT {a : Addr} {kvs : List (List Key × V)} {ds : List D} : ¬ S a → H a = some (.dT kvs) → RepAll K H S (kvs.map (·.2)) ds → Rep K H S (.ref a) (.dict ((.none, .none) :: (kvs.map fun p => tD p.1).zip ds))
  | xt {a : Addr} {o : Obj} {xs : List V} {ds : List D} : ¬ S a → H a = some (.frz o (.tup xs)) → o.dict = none → xs.length ≤ sizeLine → RepAll K H S xs ds → Rep K H S (.ref a) (.dict [(.none, .tuple ds)])
  | kt {a : Addr} {xs : List V} {ds : List D} : ¬ S a → H a = some (.tup xs) → xs.length ≤ sizeLine → RepAll K H S xs ds → Rep K H S (.ref a) (.dict [(.bool true, .tuple ds)])
  | ex {a C : Addr} {cn : Str} {φ : Heap → Prop} : ¬ S a → H a = some (.ext φ) → ExcAt C a φ → ExK K cn C → Rep K H S (.ref a) (.dict [(.bool false, .str cn)])
inductive RepAll (K : PySem.W.Frag) (H : Hp) (S : Addr → Prop) : List V → List D → Prop
  | nil : RepAll K H S [] []
  | cons {v : V} {vs : List V} {d : D} {ds : List D} : Rep K H S v d → RepAll K H S vs ds → RepAll K H S (v :: vs) (d :: ds)
end
end

section
variable {K : PySem.W.Frag} {H H' : Hp} {S S' : Addr → Prop}
theorem rd_keep {a : Addr} {u : HO} (k : ∀ o, H a = some o → H' a = some o) (h : Rd H a u) : Rd H' a u := by
  rcases h with h | ⟨o, h⟩
  · exact .inl (k _ h)
  · exact .inr ⟨o, k _ h⟩
theorem rdT_keep {a : Addr} {u : HO} {ds : List D} (k : ∀ o, H a = some o → H' a = some o) (h : RdT H a u ds) : RdT H' a u ds := by
  rcases h with ⟨x, h⟩ | ⟨x, o, h, d⟩
  · exact .inl ⟨x, k _ h⟩
  · exact .inr ⟨x, o, k _ h, d⟩
theorem rdT_rd {a : Addr} {u : HO} {ds : List D} (h : RdT H a u ds) : Rd H a u := h.elim (fun q => .inl q.2) fun ⟨_, o, q, _⟩ => .inr ⟨o, q⟩
theorem rd_tracked {a : Addr} {u : HO} (h : Rd H a u) : H a ≠ none := by
  rcases h with h | ⟨o, h⟩ <;> rw [h] <;> simp
mutual
/-- what is kept off S stays told; S' may be wider by what was not there -/
theorem Rep.keep (k : ∀ a o, ¬ S a → H a = some o → H' a = some o) (hs : ∀ a, S' a → S a ∨ H a = none) : ∀ {d : D} {v : V}, Rep K H S v d → Rep K H' S' v d
  | _, _, .non => .non
  | _, _, .bl b => .bl b
  | _, _, .int i => .int i
  | _, _, .str x => .str x
  | _, _, .lst n r z al => .lst (fun q => (hs _ q).elim n fun e => by rw [r] at e; cases e) (k _ _ n r) z (al.keep k hs)
  | _, _, .tup n r z al => .tup (fun q => (hs _ q).elim n fun e => rd_tracked (rdT_rd r) e) (rdT_keep (fun o e => k _ o n e) r) z (al.keep k hs)
  | _, _, .dK n r al => .dK (fun q => (hs _ q).elim n fun e => by rw [r] at e; cases e) (k _ _ n r) (al.keep k hs)
  | _, _, .dT n r al => .dT (fun q => (hs _ q).elim n fun e => by rw [r] at e; cases e) (k _ _ n r) (al.keep k hs)
  | _, _, .xt n r e z al => .xt (fun q => (hs _ q).elim n fun e => by rw [r] at e; cases e) (k _ _ n r) e z (al.keep k hs)
  | _, _, .kt n r z al => .kt (fun q => (hs _ q).elim n fun e => by rw [r] at e; cases e) (k _ _ n r) z (al.keep k hs)
  | _, _, .ex n r x c => .ex (fun q => (hs _ q).elim n fun e => by rw [r] at e; cases e) (k _ _ n r) x c
theorem RepAll.keep (k : ∀ a o, ¬ S a → H a = some o → H' a = some o) (hs : ∀ a, S' a → S a ∨ H a = none) : ∀ {ds : List D} {vs : List V}, RepAll K H S vs ds → RepAll K H' S' vs ds
  | _, _, .nil => .nil
  | _, _, .cons r t => .cons (r.keep k hs) (t.keep k hs)
end
theorem RepAll.length : ∀ {vs : List V} {ds : List D}, RepAll K H S vs ds → vs.length = ds.length
  | _, _, .nil => rfl
  | _, _, .cons _ t => by simp [RepAll.length t]
theorem RepAll.get : ∀ {vs : List V} {ds : List D} {i : Nat} {d : D}, RepAll K H S vs ds → ds[i]? = some d → ∃ v, vs[i]? = some v ∧ Rep K H S v d
  | _, _, _, _, .nil, e => by simp at e
  | _, _, 0, _, .cons r _, e => by simp at e; subst e; exact ⟨_, rfl, r⟩
  | _, _, i + 1, d, .cons _ t, e => by
    obtain ⟨u, h1, h2⟩ := RepAll.get (i := i) (d := d) t (by simpa using e)
    exact ⟨u, by simpa using h1, h2⟩
theorem RepAll.getV : ∀ {vs : List V} {ds : List D} {i : Nat} {v : V}, RepAll K H S vs ds → vs[i]? = some v → ∃ d, ds[i]? = some d ∧ Rep K H S v d
  | _, _, _, _, .nil, e => by simp at e
  | _, _, 0, _, .cons r _, e => by simp at e; subst e; exact ⟨_, rfl, r⟩
  | _, _, i + 1, d, .cons _ t, e => by
    obtain ⟨u, h1, h2⟩ := RepAll.getV (i := i) (v := d) t (by simpa using e)
    exact ⟨u, by simpa using h1, h2⟩
theorem RepAll.append : ∀ {vs ws : List V} {ds es : List D}, RepAll K H S vs ds → RepAll K H S ws es → RepAll K H S (vs ++ ws) (ds ++ es)
  | _, _, _, _, .nil, s => s
  | _, _, _, _, .cons r t, s => .cons r (RepAll.append t s)
theorem RepAll.take : ∀ {vs : List V} {ds : List D} (n : Nat), RepAll K H S vs ds → RepAll K H S (vs.take n) (ds.take n)
  | _, _, 0, _ => by simp; exact .nil
  | _, _, _ + 1, .nil => .nil
  | _, _, n + 1, .cons r t => .cons r (RepAll.take n t)
theorem RepAll.drop : ∀ {vs : List V} {ds : List D} (n : Nat), RepAll K H S vs ds → RepAll K H S (vs.drop n) (ds.drop n)
  | _, _, 0, h => h
  | _, _, _ + 1, .nil => .nil
  | _, _, n + 1, .cons _ t => RepAll.drop n t
theorem RepAll.reverse : ∀ {vs : List V} {ds : List D}, RepAll K H S vs ds → RepAll K H S vs.reverse ds.reverse
  | _, _, .nil => .nil
  | _, _, .cons r t => by simp only [List.reverse_cons]; exact (RepAll.reverse t).append (.cons r .nil)
theorem RepAll.eraseIdx : ∀ {vs : List V} {ds : List D} (n : Nat), RepAll K H S vs ds → RepAll K H S (vs.eraseIdx n) (ds.eraseIdx n)
  | _, _, _, .nil => .nil
  | _, _, 0, .cons _ t => t
  | _, _, n + 1, .cons r t => .cons r (RepAll.eraseIdx n t)
theorem RepAll.set {v : V} {d : D} (r : Rep K H S v d) : ∀ {vs : List V} {ds : List D} (n : Nat), RepAll K H S vs ds → RepAll K H S (vs.set n v) (ds.set n d)
  | _, _, _, .nil => .nil
  | _, _, 0, .cons _ t => .cons r t
  | _, _, n + 1, .cons q t => .cons q (RepAll.set r n t)
theorem RepAll.rep {vs : List V} {ds : List D} (h : RepAll K H S vs ds) : ∀ k : Nat, RepAll K H S (List.replicate k vs).flatten (List.replicate k ds).flatten
  | 0 => .nil
  | k + 1 => by simp only [List.replicate_succ, List.flatten_cons]; exact h.append (h.rep k)
theorem Rep.toInt {v : V} {i : Int} (r : Rep K H S v (.int i)) : v = .int i := by cases r; rfl
theorem Rep.toBl {v : V} {i : Bool} (r : Rep K H S v (.bool i)) : v = .bl i := by cases r; rfl
theorem Rep.toStr {v : V} {i : Str} (r : Rep K H S v (.str i)) : v = .str i := by cases r; rfl
theorem Rep.toTup {v : V} {ds : List D} (r : Rep K H S v (.tuple ds)) : ∃ a xs, v = .ref a ∧ ((¬ S a ∧ Rd H a (.tup xs)) ∨ KTup K a xs) ∧ xs.length ≤ sizeLine ∧ RepAll K H S xs ds := by
  cases r with | tup n r z al => exact ⟨_, _, rfl, .inl ⟨n, rdT_rd r⟩, z, al⟩
theorem Rep.toTupX {v : V} {ds : List D} (hF : tupF ds.length = false) (hx : frzOk0 ds = false) (r : Rep K H S v (.tuple ds)) : ∃ a xs, v = .ref a ∧ ¬ S a ∧ H a = some (.tup xs) ∧ xs.length ≤ sizeLine ∧ RepAll K H S xs ds := by
  cases r with
  | tup n r z al => exact ⟨_, _, rfl, n, r.elim (fun q => q.2) fun q => absurd q.1 (by unfold frzOk; rw [hx, hF]; simp), z, al⟩
theorem Rep.toXt {v : V} {ds : List D} (r : Rep K H S v (xtD ds)) : ∃ a o xs, v = .ref a ∧ ¬ S a ∧ H a = some (.frz o (.tup xs)) ∧ o.dict = none ∧ xs.length ≤ sizeLine ∧ RepAll K H S xs ds := by
  unfold xtD at r
  generalize hd : PyData.dict [(.none, .tuple ds)] = d at r
  cases r with
  | xt n r e z al => cases hd; exact ⟨_, _, _, rfl, n, r, e, z, al⟩
  | @dK a kvs ds' n r al =>
    have := (PyData.dict.inj hd).symm
    cases kvs with
    | nil => simp at this
    | cons p kvs => cases ds' with
      | nil => simp at this
      | cons x ds' =>
        simp at this
        obtain ⟨⟨h1, _⟩, _⟩ := this
        cases hp : p.1 <;> rw [hp] at h1 <;> cases h1
  | dT n r al => cases hd
  | _ => cases hd
theorem Rep.toKt {v : V} {ds : List D} (r : Rep K H S v (ktD ds)) : ∃ a xs, v = .ref a ∧ ¬ S a ∧ H a = some (.tup xs) ∧ xs.length ≤ sizeLine ∧ RepAll K H S xs ds := by
  unfold ktD at r
  generalize hd : PyData.dict [(.bool true, .tuple ds)] = d at r
  cases r with
  | kt n r z al => cases hd; exact ⟨_, _, rfl, n, r, z, al⟩
  | @dK a kvs ds' n r al =>
    have := (PyData.dict.inj hd).symm
    cases kvs with
    | nil => simp at this
    | cons p kvs => cases ds' with
      | nil => simp at this
      | cons x ds' =>
        simp at this
        obtain ⟨⟨h1, _⟩, _⟩ := this
        cases hp : p.1 <;> rw [hp] at h1 <;> cases h1
  | dT n r al => cases hd
  | _ => cases hd
theorem sqT_of {a : Addr} {xs : List V} (h : (¬ S a ∧ Rd H a (.tup xs)) ∨ KTup K a xs) : SqT K H a xs := h.elim (fun q => .inl q.2) .inr
end

/-- a tuple, known whole or not -/
def tupOf : D → Option (List D)
  | .tuple xs => some xs
  | .dict [(.none, .tuple xs)] => some xs
  | _ => none
theorem tupOf_cases {d : D} {ds : List D} (h : tupOf d = some ds) : d = .tuple ds ∨ d = xtD ds := by
  unfold tupOf at h
  split at h
  · cases h; exact .inl rfl
  · cases h; exact .inr rfl
  · cases h
theorem Rep.toTupO {K : PySem.W.Frag} {H : Hp} {S : Addr → Prop} {v : V} {d : D} {ds : List D} (h : tupOf d = some ds) (r : Rep K H S v d) : ∃ a xs, v = .ref a ∧ ((¬ S a ∧ Rd H a (.tup xs)) ∨ KTup K a xs) ∧ xs.length ≤ sizeLine ∧ RepAll K H S xs ds := by
  rcases tupOf_cases h with rfl | rfl
  · exact r.toTup
  · obtain ⟨a, o, xs, rfl, n, e, _, z, al⟩ := r.toXt
    exact ⟨a, xs, rfl, .inl ⟨n, .inr ⟨o, e⟩⟩, z, al⟩
/-- a dict's data is no tuple's, but for one -/
theorem dict_xt (kvs : List (D × D)) : (∃ xs, kvs = [(.none, .tuple xs)]) ∨ ∀ xs, kvs ≠ [(.none, .tuple xs)] := by
  by_cases h : ∃ xs, kvs = [(.none, .tuple xs)]
  · exact .inl h
  · exact .inr fun xs e => h ⟨xs, e⟩
/-- at a stands a list, or a dict, that may be written -/
inductive Obj1 (K : PySem.W.Frag) (H : Hp) (S : Addr → Prop) (a : Addr) : D → Prop
  | lst {xs : List V} {ds : List D} : H a = some (.lst xs) → xs.length ≤ sizeLine → RepAll K H S xs ds → Obj1 K H S a (.list ds)
  | dK {kvs : List (Key × V)} {ds : List D} : H a = some (.dK kvs) → RepAll K H S (kvs.map (·.2)) ds → Obj1 K H S a (.dict ((kvs.map fun p => kD p.1).zip ds))
  | dT {kvs : List (List Key × V)} {ds : List D} : H a = some (.dT kvs) → RepAll K H S (kvs.map (·.2)) ds → Obj1 K H S a (.dict ((.none, .none) :: (kvs.map fun p => tD p.1).zip ds))
/-- .. that may be read -/
inductive ObjR (K : PySem.W.Frag) (H : Hp) (S : Addr → Prop) (a : Addr) : D → Prop
  | lst {xs : List V} {ds : List D} : Rd H a (.lst xs) → xs.length ≤ sizeLine → RepAll K H S xs ds → ObjR K H S a (.list ds)
  | dK {kvs : List (Key × V)} {ds : List D} : H a = some (.dK kvs) → RepAll K H S (kvs.map (·.2)) ds → ObjR K H S a (.dict ((kvs.map fun p => kD p.1).zip ds))
  | dT {kvs : List (List Key × V)} {ds : List D} : H a = some (.dT kvs) → RepAll K H S (kvs.map (·.2)) ds → ObjR K H S a (.dict ((.none, .none) :: (kvs.map fun p => tD p.1).zip ds))
section
variable {K : PySem.W.Frag} {H H' : Hp} {S S' : Addr → Prop} {a : Addr} {d : D}
theorem Obj1.r (h : Obj1 K H S a d) : ObjR K H S a d := by
  cases h with
  | lst e z al => exact .lst (.inl e) z al
  | dK e al => exact .dK e al
  | dT e al => exact .dT e al
theorem Obj1.tracked (h : Obj1 K H S a d) : H a ≠ none := by cases h <;> simp_all
theorem ObjR.tracked (h : ObjR K H S a d) : H a ≠ none := by
  cases h with
  | lst e z al => exact rd_tracked e
  | dK e al => simp [e]
  | dT e al => simp [e]
theorem Obj1.keep (h : Obj1 K H S a d) (e : ∀ o, H a = some o → H' a = some o) (k : ∀ a o, ¬ S a → H a = some o → H' a = some o) (hs : ∀ a, S' a → S a ∨ H a = none) : Obj1 K H' S' a d := by
  cases h with
  | lst q z al => exact .lst (e _ q) z (al.keep k hs)
  | dK q al => exact .dK (e _ q) (al.keep k hs)
  | dT q al => exact .dT (e _ q) (al.keep k hs)
theorem ObjR.keep (h : ObjR K H S a d) (e : ∀ o, H a = some o → H' a = some o) (k : ∀ a o, ¬ S a → H a = some o → H' a = some o) (hs : ∀ a, S' a → S a ∨ H a = none) : ObjR K H' S' a d := by
  cases h with
  | lst q z al => exact .lst (rd_keep e q) z (al.keep k hs)
  | dK q al => exact .dK (e _ q) (al.keep k hs)
  | dT q al => exact .dT (e _ q) (al.keep k hs)

/-- a thing that stands apart from S is told -/
theorem Obj1.rep (h : Obj1 K H S a d) (n : ¬ S a) : Rep K H S (.ref a) d := by
  cases h with
  | lst q z al => exact .lst n q z al
  | dK q al => exact .dK n q al
  | dT q al => exact .dT n q al
end
theorem ObjR.noXt {K : PySem.W.Frag} {H : Hp} {S : Addr → Prop} {a : Addr} {ds : List D} (r : ObjR K H S a (xtD ds)) : False := by
  unfold xtD at r
  generalize hd : PyData.dict [(.none, .tuple ds)] = d at r
  cases r with
  | lst => cases hd
  | @dK kvs ds' r al =>
    have := (PyData.dict.inj hd).symm
    cases kvs with
    | nil => simp at this
    | cons p kvs => cases ds' with
      | nil => simp at this
      | cons x ds' =>
        simp at this
        obtain ⟨⟨h1, _⟩, _⟩ := this
        cases hp : p.1 <;> rw [hp] at h1 <;> cases h1
  | dT r al => cases hd
theorem ObjR.noKt {K : PySem.W.Frag} {H : Hp} {S : Addr → Prop} {a : Addr} {ds : List D} (r : ObjR K H S a (ktD ds)) : False := by
  unfold ktD at r
  generalize hd : PyData.dict [(.bool true, .tuple ds)] = d at r
  cases r with
  | lst => cases hd
  | @dK kvs ds' r al =>
    have := (PyData.dict.inj hd).symm
    cases kvs with
    | nil => simp at this
    | cons p kvs => cases ds' with
      | nil => simp at this
      | cons x ds' =>
        simp at this
        obtain ⟨⟨h1, _⟩, _⟩ := this
        cases hp : p.1 <;> rw [hp] at h1 <;> cases h1
  | dT r al => cases hd
/-- what may be read just now: told, or a list or dict that someone may write -/
def RdB (K : PySem.W.Frag) (H : Hp) (S : Addr → Prop) (v : V) (d : D) : Prop := Rep K H S v d ∨ ∃ a, v = .ref a ∧ ObjR K H S a d

def Pool (H : Hp) (a : Addr) : Prop := ∃ x y z : Int, H a = some (.lst [.int x, .int y, .int z])

/-- an answer of a kind; H0: the heap ahead of it -/
def Res (K : PySem.W.Frag) (g : Rg) (k : RK) (H0 H : Hp) (v : V) (d : D) : Prop := match k with
  | .fz => Rep K H g.own v d
  | .rd => Rep K H g.own v d ∨ ∃ a, v = .ref a ∧ ¬ g.P a ∧ g.I a ∧ ObjR K H g.own a d
  | .nw => ∃ p, v = .ref p ∧ H0 p = none ∧ g.O p ∧ ¬ g.P p ∧ Obj1 K H g.own p d
  | .ow i => ∃ a, v = .ref a ∧ g.al i = some a ∧ Obj1 K H g.own a d
  | .pl => ∃ a, v = .ref a ∧ g.P a ∧ d = .none
  | .np => ∃ p, v = .ref p ∧ H0 p = none ∧ g.O p ∧ ¬ g.P p ∧ Pool H p ∧ d = .none
/-- an own dict with tuple keys that is walked: locked -/
inductive ObjL (K : PySem.W.Frag) (H : Hp) (S : Addr → Prop) (a : Addr) : D → Prop
  | mk {o : Obj} {kvs : List (List Key × V)} {ds : List D} : H a = some (.frz o (.dT kvs)) → RepAll K H S (kvs.map (·.2)) ds → ObjL K H S a (.dict ((.none, .none) :: (kvs.map fun p => tD p.1).zip ds))
theorem ObjL.keep {K : PySem.W.Frag} {H H' : Hp} {S S' : Addr → Prop} {a : Addr} {d : D} (h : ObjL K H S a d) (e : ∀ o, H a = some o → H' a = some o) (k : ∀ a o, ¬ S a → H a = some o → H' a = some o) (hs : ∀ a, S' a → S a ∨ H a = none) : ObjL K H' S' a d := by
  cases h with
  | mk r al => exact .mk (e _ r) (al.keep k hs)
/-- a told dict that is walked: locked -/
inductive ObjW (K : PySem.W.Frag) (H : Hp) (S : Addr → Prop) (a : Addr) : D → Prop
  | mk {o : Obj} {kvs : List (Key × V)} {ds : List D} : ¬ S a → H a = some (.frz o (.dK kvs)) → RepAll K H S (kvs.map (·.2)) ds → ObjW K H S a (.dict ((kvs.map fun p => kD p.1).zip ds))
theorem ObjW.keep {K : PySem.W.Frag} {H H' : Hp} {S S' : Addr → Prop} {a : Addr} {d : D} (h : ObjW K H S a d) (k : ∀ a o, ¬ S a → H a = some o → H' a = some o) (hs : ∀ a, S' a → S a ∨ H a = none) : ObjW K H' S' a d := by
  cases h with
  | mk n r al => exact .mk (fun q => (hs _ q).elim n fun e => by rw [r] at e; cases e) (k _ _ n r) (al.keep k hs)
/-- a told list of things that are told by their addresses -/
def HsAt (H : Hp) (S : Addr → Prop) (v : V) (d : D) : Prop := ∃ (b : Addr) (as : List Addr), v = .ref b ∧ ¬ S b ∧ H b = some (.lst (as.map V.ref)) ∧ d = .list (as.map fun a => hD a) ∧ as.length ≤ sizeLine
theorem HsAt.keep {H H' : Hp} {S S' : Addr → Prop} {v : V} {d : D} (h : HsAt H S v d) (k : ∀ a o, ¬ S a → H a = some o → H' a = some o) (hs : ∀ a, S' a → S a ∨ H a = none) : HsAt H' S' v d := by
  obtain ⟨b, as, e, n, hb, ed, z⟩ := h
  exact ⟨b, as, e, fun q => (hs _ q).elim n (fun e => by rw [hb] at e; cases e), k _ _ n hb, ed, z⟩
def SlotK (K : PySem.W.Frag) (g : Rg) (H : Hp) (k : SK) (i : Nat) (v : V) (d : D) : Prop := match k with
  | .v => Rep K H g.own v d
  | .r => Rep K H g.own v d ∨ ∃ a, v = .ref a ∧ ¬ g.P a ∧ g.I a ∧ ObjR K H g.own a d
  | .o => ∃ a, v = .ref a ∧ g.al i = some a ∧ Obj1 K H g.own a d
  | .q => ∃ a, v = .ref a ∧ g.al i = some a ∧ Obj1 K H g.own a d
  | .l => ∃ a, v = .ref a ∧ g.al i = some a ∧ ObjL K H g.own a d
  | .w => ∃ a, v = .ref a ∧ ObjW K H g.own a d
  | .p => ∃ a, v = .ref a ∧ g.P a ∧ d = .none
  | .f => (∃ a, v = .ref a ∧ g.al i = some a ∧ Obj1 K H g.own a d) ∨ ∃ d', d = .tuple [d'] ∧ Rep K H g.own v d'
  | .x a cn => v = .ref a ∧ (d = .dict [(.none, .str cn)] ∨ d = exV cn)
  | .s => False
  | .h => ∃ a : Addr, v = .ref a ∧ d = hD a
  | .hs => HsAt H g.own v d
def kindOf (κ : List SK) (i : Nat) : SK := (κ[i]?).getD .v

/-- something stands there, no tuple -/
def Tk (H : Hp) (a : Addr) : Prop := H a ≠ none ∧ ∀ xs, H a ≠ some (.tup xs)
theorem Obj1.tk {K : PySem.W.Frag} {H : Hp} {S : Addr → Prop} {a : Addr} {d : D} (h : Obj1 K H S a d) : Tk H a := by cases h <;> simp_all [Tk]
theorem Pool.tk {H : Hp} {a : Addr} (h : Pool H a) : Tk H a := by obtain ⟨x, y, z, e⟩ := h; simp [Tk, e]
theorem Tk.of {H H' : Hp} {a : Addr} (h : Tk H a) (k : ∀ o, H a = some o → H' a = some o) : Tk H' a := by
  cases e : H a with
  | none => exact absurd e h.1
  | some o => exact ⟨by rw [k o e]; simp, fun xs z => h.2 xs (by rw [e]; rw [k o e] at z; exact z)⟩
abbrev deskD (w f : D) (ps : List D) : D := .tuple [w, f, .list ps]
def stD (L : List (Addr × D)) : D := .list (L.map fun p => .tuple [.int (p.1 : Int), p.2])
inductive EntK (K : PySem.W.Frag) (H : Hp) (S : Addr → Prop) (q : Option Addr) (a : Addr) : D → Prop
  | dk {C dx b : Addr} {vw vf : V} {xs : List V} {w f : D} {ps : List D} : clsOf K "Desk" = some C → H a = some (.ins C dx [("web", vw), ("fall", vf), ("past", .ref b)]) → q = some b → Rep K H S vw w → Rep K H S vf f → H b = some (.lst xs) → xs.length ≤ sizeLine → RepAll K H S xs ps → EntK K H S q a (deskD w f ps)
  | ls {ds : List D} : Obj1 K H S a (.list ds) → EntK K H S q a (.list ds)
theorem EntK.keep {K : PySem.W.Frag} {H H' : Hp} {S S' : Addr → Prop} {q : Option Addr} {a : Addr} {d : D} (h : EntK K H S q a d) (e : ∀ o, H a = some o → H' a = some o) (eq : ∀ b o, q = some b → H b = some o → H' b = some o) (k : ∀ a o, ¬ S a → H a = some o → H' a = some o) (hs : ∀ a, S' a → S a ∨ H a = none) : EntK K H' S' q a d := by
  cases h with
  | dk c i eb rw rf hb z al => exact .dk c (e _ i) eb (rw.keep k hs) (rf.keep k hs) (eq _ _ eb hb) z (al.keep k hs)
  | ls o => exact .ls (o.keep e k hs)
theorem EntK.alq {K : PySem.W.Frag} {H : Hp} {S : Addr → Prop} {q q' : Option Addr} {a : Addr} {d : D} (h : EntK K H S q a d) (m : ∀ b, q = some b → q' = some b) : EntK K H S q' a d := by
  cases h with
  | dk c i eb rw rf hb z al => exact .dk c i (m _ eb) rw rf hb z al
  | ls o => exact .ls o
def StoreK (K : PySem.W.Frag) (κ : List SK) (g : Rg) (H : Hp) (d : D) : Prop := ∃ L : List (Addr × D), d = stD L ∧ L.length ≤ 12 ∧ κ.length ≤ 1000 ∧ (∀ n, 1000 + 2 * L.length ≤ n → g.al n = none) ∧
  ∀ n p, L[n]? = some p → g.al (1000 + 2 * n) = some p.1 ∧ EntK K H g.own (g.al (1001 + 2 * n)) p.1 p.2
theorem kind_v {κ : List SK} (h : κ.length ≤ 1000) (k : Nat) (hk : 1000 ≤ k) : kindOf κ k = .v := by
  unfold kindOf
  rw [List.getElem?_eq_none (by omega)]; rfl
theorem StoreK.keep {K : PySem.W.Frag} {κ κ' : List SK} {g g' : Rg} {H H' : Hp} {d : D} (h : StoreK K κ g H d) (hκ : κ'.length = κ.length) (al : ∀ k, 1000 ≤ k → kindOf κ k = .v → g'.al k = g.al k)
    (k : ∀ i b o, 1000 ≤ i → kindOf κ i = .v → g.al i = some b → H b = some o → H' b = some o) (off : ∀ a o, ¬ g.own a → H a = some o → H' a = some o) (hs : ∀ a, g'.own a → g.own a ∨ H a = none) : StoreK K κ' g' H' d := by
  obtain ⟨L, e, hl, hk0, hn, hL⟩ := h
  have hk := kind_v hk0
  refine ⟨L, e, hl, by rw [hκ]; exact hk0, fun n h => by rw [al n (by omega) (hk n (by omega))]; exact hn n h, fun n p hp => ?_⟩
  obtain ⟨h1, h2⟩ := hL n p hp
  refine ⟨by rw [al _ (by omega) (hk _ (by omega))]; exact h1, ?_⟩
  exact (h2.keep (fun o q => k _ _ o (by omega) (hk _ (by omega)) h1 q) (fun b o eb q => k _ b o (by omega) (hk _ (by omega)) eb q) off hs).alq fun b eb => by rw [al _ (by omega) (hk _ (by omega))]; exact eb
theorem StoreK.same {K : PySem.W.Frag} {κ κ' : List SK} {g g' : Rg} {H : Hp} {d : D} (h : StoreK K κ g H d) (al : ∀ k, 1000 ≤ k → kindOf κ k = .v → g'.al k = g.al k := by intro _ _ _; rfl)
    (own : ∀ a, g'.own a → g.own a := by intro _ h; exact h) (hκ : κ'.length = κ.length := by first | rfl | (simp only [List.length_set])) : StoreK K κ' g' H d :=
  h.keep hκ al (fun _ _ _ _ _ _ h => h) (fun _ _ _ h => h) fun a q => .inl (own a q)
structure Frm (K : PySem.W.Frag) (κ : List SK) (g : Rg) (env : En) (σ : St) (H : Hp) : Prop where
  ln : env.length = κ.length
  sl : σ.length = κ.length
  ev' : ∀ i d, env[i]? = some (some d) → kindOf κ i ≠ .s → ∃ v, σ[i]? = some (some v) ∧ SlotK K g H (kindOf κ i) i v d
  gh : ∀ i d, env[i]? = some (some d) → kindOf κ i = .s → StoreK K κ g H d
  inj : ∀ i j a, g.al i = some a → g.al j = some a → i = j
  alo' : ∀ i a, g.al i = some a → ¬ g.O a ∧ Tk H a
  ot' : ∀ a, g.O a → Tk H a
  il : ∀ a, g.I a → g.O a
  pl : ∀ a, g.P a → g.O a ∧ Pool H a

theorem Frm.ev {K : PySem.W.Frag} {κ : List SK} {g : Rg} {env : En} {σ : St} {H : Hp} (F : Frm K κ g env σ H) (i : Nat) (d : D) (e : env[i]? = some (some d))
    (hs : kindOf κ i ≠ .s := by first | assumption | (rename (kindOf _ _ = _) => h8; rw [h8]; intro h9; cases h9; done) | (rename (kindOf _ _ = _ ∨ kindOf _ _ = _) => h8; rcases h8 with h8 | h8 <;> rw [h8] <;> intro h9 <;> cases h9)) : ∃ v, σ[i]? = some (some v) ∧ SlotK K g H (kindOf κ i) i v d := F.ev' i d e hs
/-- an expression's step: M, the slots whose own things may have changed -/
structure EStep (M : List Nat) (g g' : Rg) (H H' : Hp) : Prop where
  al : g'.al = g.al
  P : g'.P = g.P
  I : g'.I = g.I
  up : ∀ a, g.O a → g'.O a
  dn : ∀ a, g'.O a → g.O a ∨ H a = none
  keep : ∀ b o, H b = some o → ¬ g.P b → (∀ i ∈ M, g.al i ≠ some b) → H' b = some o
  pool : ∀ b, g.P b → Pool H b → Pool H' b

/-- an expression of this reading -/
def cE (K : PySem.W.Frag) (κ : List SK) (M : List Nat) (k : RK) (w : WE) : TE := fun σ H Q => ∃ g env W, Frm K κ g env σ H ∧ w env W ∧
  ∀ v H' g' env' d, Frm K κ g' env' σ H' → EStep M g g' H H' → Res K g' k H H' v d → W d env' → Q v H'
def SE (X : Cx) (κ : List SK) (M : List Nat) (k : RK) (e : Expr) (w : WE) : Prop := PE X e (cE X.K κ M k w)
def cT (K : PySem.W.Frag) (κ : List SK) (M : List Nat) (w : WT) : TT := fun σ H Q => ∃ g env W, Frm K κ g env σ H ∧ w env W ∧
  ∀ b H' g' env', Frm K κ g' env' σ H' → EStep M g g' H H' → W b env' → Q b H'
def ST (X : Cx) (κ : List SK) (M : List Nat) (e : Expr) (w : WT) : Prop := PT X e (cT X.K κ M w)

section
variable {K : PySem.W.Frag} {κ : List SK} {g g' g2 : Rg} {env env' : En} {σ : St} {H H' H2 : Hp} {M M' : List Nat} {v : V} {d : D}
theorem EStep.refl : EStep M g g H H := ⟨rfl, rfl, rfl, fun _ h => h, fun _ h => .inl h, fun _ _ h _ _ => h, fun _ _ h => h⟩
theorem EStep.same (s : ∀ b o, H b = some o → H' b = some o) : EStep M g g H H' := ⟨rfl, rfl, rfl, fun _ h => h, fun _ h => .inl h, fun b o h _ _ => s b o h, fun _ _ ⟨x, y, z, e⟩ => ⟨x, y, z, s _ _ e⟩⟩
theorem EStep.mono (h : EStep M g g' H H') (s : ∀ i ∈ M, i ∈ M') : EStep M' g g' H H' := ⟨h.al, h.P, h.I, h.up, h.dn, fun b o e p q => h.keep b o e p fun i hi => q i (s i hi), h.pool⟩
theorem Frm.alo (f : Frm K κ g env σ H) (i : Nat) (a : Addr) (e : g.al i = some a) : ¬ g.O a ∧ H a ≠ none := ⟨(f.alo' i a e).1, (f.alo' i a e).2.1⟩
theorem Frm.ot (f : Frm K κ g env σ H) (a : Addr) (q : g.O a) : H a ≠ none := (f.ot' a q).1
theorem Frm.own_tk (f : Frm K κ g env σ H) {a : Addr} (h : g.own a) : Tk H a := h.elim (f.ot' a) fun ⟨i, e⟩ => (f.alo' i a e).2
/-- a tuple is nobody's own -/
theorem Frm.own_nt (f : Frm K κ g env σ H) {a : Addr} {xs : List V} (e : H a = some (.tup xs)) : ¬ g.own a := fun q => (f.own_tk q).2 xs e
theorem Frm.own_ne (f : Frm K κ g env σ H) {a : Addr} (h : g.own a) : H a ≠ none := by
  rcases h with h | ⟨i, h⟩
  · exact f.ot a h
  · exact (f.alo i a h).2
theorem Frm.p_own (f : Frm K κ g env σ H) {a : Addr} (h : g.P a) : g.own a := .inl (f.pl a h).1
/-- what is tracked stays tracked -/
theorem EStep.there {σ' : St} (h : EStep M g g' H H') (f : Frm K κ g env σ H) (f' : Frm K κ g' env' σ' H') {a : Addr} (e : H' a = none) : H a = none := by
  cases q : H a with
  | none => rfl
  | some o =>
    by_cases hp : g.P a
    · have := h.pool a hp (f.pl a hp).2
      obtain ⟨x, y, z, r⟩ := this
      rw [r] at e; cases e
    · by_cases hm : ∀ i ∈ M, g.al i ≠ some a
      · rw [h.keep a o q hp hm] at e; cases e
      · have : ∃ i, i ∈ M ∧ g.al i = some a := by
          apply Classical.byContradiction
          intro c
          exact hm fun i hi z => c ⟨i, hi, z⟩
        obtain ⟨i, hi, z⟩ := this
        exact absurd e (f'.alo i a (by rw [h.al]; exact z)).2
theorem EStep.trans {σ' : St} (h : EStep M g g' H H') (h2 : EStep M' g' g2 H' H2) (f : Frm K κ g env σ H) (f' : Frm K κ g' env' σ' H') : EStep (M ++ M') g g2 H H2 := by
  refine ⟨h2.al.trans h.al, h2.P.trans h.P, h2.I.trans h.I, fun a q => h2.up a (h.up a q), fun a q => ?_, fun b o e p q => ?_, fun b p q => h2.pool b (by rw [h.P]; exact p) (h.pool b p q)⟩
  · rcases h2.dn a q with z | z
    · exact h.dn a z
    · exact .inr (h.there f f' z)
  · exact h2.keep b o (h.keep b o e p fun i hi => q i (List.mem_append_left _ hi)) (by rw [h.P]; exact p) fun i hi => by rw [h.al]; exact q i (List.mem_append_right _ hi)
/-- off the owned things all is kept -/
theorem EStep.off (h : EStep M g g' H H') (f : Frm K κ g env σ H) : ∀ a o, ¬ g.own a → H a = some o → H' a = some o := fun a o n e =>
  h.keep a o e (fun p => n (f.p_own p)) fun i _ z => n (.inr ⟨i, z⟩)
theorem EStep.own (h : EStep M g g' H H') : ∀ a, g'.own a → g.own a ∨ H a = none := fun a q => by
  rcases q with q | ⟨i, q⟩
  · exact (h.dn a q).imp .inl id
  · rw [h.al] at q; exact .inl (.inr ⟨i, q⟩)
def stable (k : RK) (M : List Nat) : Bool := match k with
  | .ow i => !M.contains i
  | _ => true
/-- an answer stays told through a further step -/
theorem Res.step {k : RK} {H0 : Hp} (r : Res K g k H0 H v d) (h : EStep M g g' H H') (f : Frm K κ g env σ H) (hs : stable k M = true) : Res K g' k H0 H' v d := by
  have ko := h.off f
  have ho := h.own
  cases k with
  | fz => exact Rep.keep ko ho r
  | rd =>
    rcases r with r | ⟨a, rfl, np, na, r⟩
    · exact .inl (Rep.keep ko ho r)
    · refine .inr ⟨a, rfl, by rw [h.P]; exact np, by rw [h.I]; exact na, r.keep (fun o e => h.keep a o e np fun i _ z => (f.alo i a z).1 (f.il a na)) ko ho⟩
  | nw =>
    obtain ⟨p, rfl, n, hO, hP, r⟩ := r
    refine ⟨p, rfl, n, h.up p hO, by rw [h.P]; exact hP, r.keep (fun o e => h.keep p o e hP fun i _ z => (f.alo i p z).1 hO) ko ho⟩
  | ow i =>
    obtain ⟨a, rfl, e, r⟩ := r
    refine ⟨a, rfl, by rw [h.al]; exact e, r.keep (fun o q => h.keep a o q (fun p => (f.alo i a e).1 (f.pl a p).1) fun j hj z => ?_) ko ho⟩
    have : j = i := f.inj j i a z e
    subst this
    simp [stable] at hs
    exact hs hj
  | pl =>
    obtain ⟨a, rfl, p, e⟩ := r
    exact ⟨a, rfl, by rw [h.P]; exact p, e⟩
  | np =>
    obtain ⟨p, rfl, n, hO, hP, ⟨x, y, z, r⟩, e⟩ := r
    exact ⟨p, rfl, n, h.up p hO, by rw [h.P]; exact hP, ⟨x, y, z, h.keep p _ r hP fun i _ z => (f.alo i p z).1 hO⟩, e⟩
/-- whatever the kind (but a pool), it may be read now -/
theorem Res.rdb {k : RK} {H0 : Hp} (r : Res K g k H0 H v d) (hk : k.rdable = true) : RdB K H g.own v d := by
  cases k with
  | fz => exact .inl r
  | rd => exact r.imp id fun ⟨a, e, _, _, q⟩ => ⟨a, e, q⟩
  | nw => obtain ⟨p, e, _, _, _, q⟩ := r; exact .inr ⟨p, e, q.r⟩
  | ow i => obtain ⟨p, e, _, q⟩ := r; exact .inr ⟨p, e, q.r⟩
  | pl => simp [RK.rdable] at hk
  | np => simp [RK.rdable] at hk
end
end G7

set_option maxRecDepth 100000
namespace G7
open PySem PySem.Spec PyProof.Rows L2

section
variable {K : PySem.W.Frag} {κ : List SK} {g g' g2 : Rg} {env env' : En} {σ : St} {H H' H2 : Hp} {M M' : List Nat} {v : V} {d : D}
theorem EStep.tr {σ' : St} (h : EStep M g g' H H') (h2 : EStep M g' g2 H' H2) (f : Frm K κ g env σ H) (f' : Frm K κ g' env' σ' H') : EStep M g g2 H H2 :=
  (h.trans h2 f f').mono fun i hi => (List.mem_append.mp hi).elim id id
theorem Res.back {k : RK} {H0 H1 : Hp} (r : Res K g k H1 H v d) (t : ∀ p, H1 p = none → H0 p = none) : Res K g k H0 H v d := by
  cases k with
  | fz => exact r
  | rd => exact r
  | nw => obtain ⟨p, e, n, q⟩ := r; exact ⟨p, e, t p n, q⟩
  | ow i => exact r
  | pl => exact r
  | np => obtain ⟨p, e, n, q⟩ := r; exact ⟨p, e, t p n, q⟩
theorem RdB.keep (r : RdB K H g.own v d) (k : ∀ b o, H b = some o → H' b = some o) (hs : ∀ a, g'.own a → g.own a ∨ H a = none) : RdB K H' g'.own v d := by
  rcases r with r | ⟨a, e, r⟩
  · exact .inl (Rep.keep (fun a o _ q => k a o q) hs r)
  · exact .inr ⟨a, e, r.keep (fun o q => k a o q) (fun a o _ q => k a o q) hs⟩
/-- a step that keeps all but the pools -/
theorem Frm.next (f : Frm K κ g env σ H) (k : ∀ b o, H b = some o → ¬ g.P b → H' b = some o) (kp : ∀ b, g.P b → Pool H' b) (al : g'.al = g.al) (P : g'.P = g.P) (hI : g'.I = g.I) (up : ∀ a, g.P a → g'.O a) (ui : ∀ a, g.I a → g'.O a)
    (dn : ∀ a, g'.O a → g.O a ∨ (H a = none ∧ Tk H' a)) : Frm K κ g' env σ H' := by
  have nP : ∀ i a, g.al i = some a → ¬ g.P a := fun i a e p => (f.alo i a e).1 (f.pl a p).1
  have own : ∀ a, g'.own a → g.own a ∨ H a = none := fun a q => by
    rcases q with q | ⟨i, q⟩
    · exact (dn a q).imp .inl (·.1)
    · rw [al] at q; exact .inl (.inr ⟨i, q⟩)
  have off : ∀ a o, ¬ g.own a → H a = some o → H' a = some o := fun a o n e => k a o e fun p => n (f.p_own p)
  have there : ∀ a, Tk H a → Tk H' a := fun a h => by
    by_cases p : g.P a
    · exact (kp a p).tk
    · exact h.of fun o e => k a o e p
  refine ⟨f.ln, f.sl, fun i d e hs => ?_, fun i d e hs => (f.gh i d e hs).keep rfl (fun i _ _ => by rw [al]) (fun i b o _ _ h q => k b o q (nP i b h)) off own, by rw [al]; exact f.inj, fun i a e => ?_, fun a q => ?_, fun a q => by rw [hI] at q; exact ui a q, fun a p => ?_⟩
  · obtain ⟨v, e1, s⟩ := f.ev i d e
    refine ⟨v, e1, ?_⟩
    cases hk : kindOf κ i <;> rw [hk] at s <;> unfold SlotK at s ⊢ <;> simp only at s ⊢
    · exact s
    · exact Rep.keep off own s
    · rcases s with s | ⟨a, rfl, np, na, s⟩
      · exact .inl (Rep.keep off own s)
      · exact .inr ⟨a, rfl, by rw [P]; exact np, by rw [hI]; exact na, s.keep (fun o q => k a o q np) off own⟩
    · obtain ⟨a, rfl, ea, s⟩ := s
      exact ⟨a, rfl, by rw [al]; exact ea, s.keep (fun o q => k a o q (nP i a ea)) off own⟩
    · obtain ⟨a, rfl, ea, s⟩ := s
      exact ⟨a, rfl, by rw [al]; exact ea, s.keep (fun o q => k a o q (nP i a ea)) off own⟩
    · obtain ⟨a, rfl, ea, s⟩ := s
      exact ⟨a, rfl, by rw [al]; exact ea, s.keep (fun o q => k a o q (nP i a ea)) off own⟩
    · obtain ⟨a, rfl, s⟩ := s
      exact ⟨a, rfl, s.keep off own⟩
    · obtain ⟨a, rfl, p, s⟩ := s
      exact ⟨a, rfl, by rw [P]; exact p, s⟩
    · rcases s with ⟨a, rfl, ea, s⟩ | ⟨d', e', s⟩
      · exact .inl ⟨a, rfl, by rw [al]; exact ea, s.keep (fun o q => k a o q (nP i a ea)) off own⟩
      · exact .inr ⟨d', e', Rep.keep off own s⟩
    · exact s
    · exact HsAt.keep s off own
  · rw [al] at e
    refine ⟨fun q => ?_, there a (f.alo' i a e).2⟩
    rcases dn a q with z | ⟨z, _⟩
    · exact (f.alo i a e).1 z
    · exact (f.alo i a e).2 z
  · rcases dn a q with z | ⟨_, z⟩
    · exact there a (f.ot' a z)
    · exact z
  · rw [P] at p
    exact ⟨up a p, kp a p⟩
theorem Frm.same (f : Frm K κ g env σ H) (k : ∀ b o, H b = some o → H' b = some o) : Frm K κ g env σ H' :=
  f.next (fun b o e _ => k b o e) (fun b p => by obtain ⟨x, y, z, e⟩ := (f.pl b p).2; exact ⟨x, y, z, k _ _ e⟩) rfl rfl rfl (fun a p => (f.pl a p).1) f.il fun a q => .inl q
def Rg.add (g : Rg) (p : Addr) : Rg := { g with O := fun a => g.O a ∨ a = p }
theorem Rg.add_own {p a : Addr} : (g.add p).own a ↔ g.own a ∨ a = p := by
  unfold Rg.own Rg.add
  constructor
  · rintro ((h | h) | h)
    · exact .inl (.inl h)
    · exact .inr h
    · exact .inl (.inr h)
  · rintro ((h | h) | h)
    · exact .inl (.inl h)
    · exact .inr h
    · exact .inl (.inr h)
theorem same_new {p : Addr} {o : HO} (h : H p = none) : ∀ b x, H b = some x → (upd H p o) b = some x := fun b x e => by rw [upd_ne (ne_of_none e h)]; exact e
/-- a new thing at p, owned by the expression -/
theorem Frm.new (f : Frm K κ g env σ H) {p : Addr} {o : HO} (h : H p = none) (ht : ∀ xs, o ≠ .tup xs := by intro _ h; cases h) : Frm K κ (g.add p) env σ (upd H p o) :=
  f.next (fun b x e _ => same_new h b x e) (fun b q => by obtain ⟨x, y, z, e⟩ := (f.pl b q).2; exact ⟨x, y, z, same_new h _ _ e⟩) rfl rfl rfl (fun a q => .inl (f.pl a q).1) (fun a q => .inl (f.il a q))
    fun a q => q.imp id fun e => by subst e; exact ⟨h, by rw [upd_same]; simp, fun xs z => by rw [upd_same] at z; exact ht xs (Option.some.inj z)⟩
theorem EStep.new {p : Addr} {o : HO} (h : H p = none) : EStep M g (g.add p) H (upd H p o) :=
  ⟨rfl, rfl, rfl, fun _ q => .inl q, fun a q => q.imp id fun e => by subst e; exact h, fun b x e _ _ => same_new h b x e, fun b _ q => by obtain ⟨x, y, z, e⟩ := q; exact ⟨x, y, z, same_new h _ _ e⟩⟩
theorem EStep.new0 {p : Addr} {o : HO} (h : H p = none) : EStep M g g H (upd H p o) := EStep.same (same_new h)
theorem Frm.new0 (f : Frm K κ g env σ H) {p : Addr} {o : HO} (h : H p = none) : Frm K κ g env σ (upd H p o) := f.same (same_new h)
/-- less is owned -/
theorem Frm.less (f : Frm K κ g env σ H) (al : g'.al = g.al) (P : g'.P = g.P) (hI : g'.I = g.I) (ui : ∀ a, g.I a → g'.O a) (up : ∀ a, g.P a → g'.O a) (dn : ∀ a, g'.O a → g.O a) : Frm K κ g' env σ H :=
  f.next (fun b o e _ => e) (fun b p => (f.pl b p).2) al P hI up ui fun a q => .inl (dn a q)
end

section
variable {X : Cx} {κ : List SK} {M : List Nat} {e a b : Expr} {w wa wb : WE} {k ka kb : RK} {pos : Pos}
theorem SE.of {t : TE} (h : PE X e t) (s : ∀ σ H Q, cE X.K κ M k w σ H Q → t σ H Q) : SE X κ M k e w := ⟨fun pins s0 σ H Q I q => h.run pins s0 σ H Q I (s σ H Q q)⟩
theorem ST.of {c : Expr} {wt : WT} {t : TT} (h : PT X c t) (s : ∀ σ H Q, cT X.K κ M wt σ H Q → t σ H Q) : ST X κ M c wt := ⟨fun pins s0 σ H Q I q => h.run pins s0 σ H Q I (s σ H Q q)⟩
/-- a smaller reading -/
theorem SE.imp {w' : WE} (h : SE X κ M k e w) (i : ∀ en Q, w' en Q → w en Q) : SE X κ M k e w' := SE.of h fun σ H Q ⟨g, env, W, F, hw, post⟩ => ⟨g, env, W, F, i _ _ hw, post⟩
/-- a new thing is given away -/
theorem SE.nf (h : SE X κ M .nw e w) : SE X κ M .fz e w := SE.of h fun σ H Q ⟨g, env, W, F, hw, post⟩ => ⟨g, env, W, F, hw, fun v H' g' env' d F' s ⟨p, e1, n, hO, hP, r⟩ wd => by
  subst e1
  have F2 : Frm X.K κ { g' with O := g.O } env' σ H' := F'.less rfl rfl rfl (fun a q => F.il a (by rw [← s.I]; exact q)) (fun a q => (F.pl a (by rw [← s.P]; exact q)).1) s.up
  refine post _ H' { g' with O := g.O } env' d F2 ⟨s.al, s.P, s.I, fun _ q => q, fun _ q => .inl q, s.keep, s.pool⟩ ?_ wd
  have sub : ∀ a, Rg.own { g' with O := g.O } a → g'.own a := fun a q => q.imp (s.up a) id
  have np : ¬ Rg.own { g' with O := g.O } p := fun q => by
    rcases q with q | ⟨i, q⟩
    · exact F.ot p q n
    · exact (F'.alo i p q).1 hO
  exact (r.keep (S' := Rg.own { g' with O := g.O }) (H' := H') (fun _ q => q) (fun _ _ _ q => q) fun a q => .inl (sub a q)).rep np⟩
theorem se_v {i : Nat} {x : Str} (h : PE X (.Name x pos) (tVar i)) (hk : kindOf κ i = .v) : SE X κ M .fz (.Name x pos) (wVar i) := SE.of h fun σ H Q ⟨g, env, W, F, ⟨d, e1, hw⟩, post⟩ => by
  obtain ⟨v, e2, s⟩ := F.ev i d e1
  rw [hk] at s
  exact ⟨v, e2, post v H g env d F .refl s hw⟩
theorem se_r {i : Nat} {x : Str} (h : PE X (.Name x pos) (tVar i)) (hk : kindOf κ i = .r) : SE X κ M .rd (.Name x pos) (wVar i) := SE.of h fun σ H Q ⟨g, env, W, F, ⟨d, e1, hw⟩, post⟩ => by
  obtain ⟨v, e2, s⟩ := F.ev i d e1
  rw [hk] at s
  exact ⟨v, e2, post v H g env d F .refl s hw⟩
theorem se_o {i : Nat} {x : Str} (h : PE X (.Name x pos) (tVar i)) (hk : kindOf κ i = .o) : SE X κ M (.ow i) (.Name x pos) (wVar i) := SE.of h fun σ H Q ⟨g, env, W, F, ⟨d, e1, hw⟩, post⟩ => by
  obtain ⟨v, e2, s⟩ := F.ev i d e1
  rw [hk] at s
  exact ⟨v, e2, post v H g env d F .refl s hw⟩
theorem se_p {i : Nat} {x : Str} (h : PE X (.Name x pos) (tVar i)) (hk : kindOf κ i = .p) : SE X κ M .pl (.Name x pos) (wVar i) := SE.of h fun σ H Q ⟨g, env, W, F, ⟨d, e1, hw⟩, post⟩ => by
  obtain ⟨v, e2, s⟩ := F.ev i d e1
  rw [hk] at s
  exact ⟨v, e2, post v H g env d F .refl s hw⟩
theorem se_c {v : V} {d : D} (h : PE X e (tC v)) (r : ∀ H S, Rep X.K H S v d) : SE X κ M .fz e (wC d) := SE.of h fun σ H Q ⟨g, env, W, F, hw, post⟩ => post v H g env d F .refl (r _ _) hw
theorem se_int {i j} : SE X κ M .fz (.Constant (.int i) j pos) (wC (.int i)) := se_c pe_int fun _ _ => .int i
theorem se_bl {i j} : SE X κ M .fz (.Constant (.bool i) j pos) (wC (.bool i)) := se_c pe_bl fun _ _ => .bl i
theorem se_non {j} : SE X κ M .fz (.Constant .none j pos) (wC .none) := se_c pe_non fun _ _ => .non
theorem se_str {i j} : SE X κ M .fz (.Constant (.str i) j pos) (wC (.str i)) := se_c pe_str fun _ _ => .str i
theorem se_gint {x : Str} {i : Int} {t : Tok} (hg : Gl X x) (hm : X.mg x = some (.int i t)) (hd : (x == ("__debug__" : Str)) = false := by decide) : SE X κ M .fz (.Name x pos) (wC (.int i)) := se_c (pe_glob (v := .int i) hg hm ⟨t, rfl⟩ hd) fun _ _ => .int i

/-- what an operator by values gives over data -/
def OpD (K : PySem.W.Frag) (r : R2) (f : D → D → Option D) (k : RK) : Prop := ∀ (κ : List SK) (g : Rg) (env : En) (σ : St) (H : Hp) (x y : V) (dx dy dz : D) (Q : VK), Frm K κ g env σ H → RdB K H g.own x dx → RdB K H g.own y dy → f dx dy = some dz →
  (∀ v H' g', Frm K κ g' env σ H' → EStep [] g g' H H' → Res K g' k H H' v dz → Q v H') → r x y H Q
def Op1 (K : PySem.W.Frag) (r : V → Hp → VK → Prop) (f : D → Option D) (k : RK) : Prop := ∀ (κ : List SK) (g : Rg) (env : En) (σ : St) (H : Hp) (x : V) (dx dz : D) (Q : VK), Frm K κ g env σ H → RdB K H g.own x dx → f dx = some dz →
  (∀ v H' g', Frm K κ g' env σ H' → EStep [] g g' H H' → Res K g' k H H' v dz → Q v H') → r x H Q
theorem se_tOp {r : R2} {f : D → D → Option D} {E : Expr} (h : PE X E (tOp r (cE X.K κ M ka wa) (cE X.K κ M kb wb))) (hf : OpD X.K r f k) (hs : stable ka M = true) (pa : ka.rdable = true) (pb : kb.rdable = true) : SE X κ M k E (wOp2 f wa wb) :=
  SE.of h fun σ H Q ⟨g, env, W, F, hw, post⟩ => ⟨g, env, _, F, hw, fun x H1 g1 e1 d1 F1 s1 r1 w1 => ⟨g1, e1, _, F1, w1, fun y H2 g2 e2 d2 F2 s2 r2 w2 => by
    obtain ⟨z, ez, wz⟩ := w2
    refine hf κ g2 e2 σ H2 x y d1 d2 z Q F2 ((r1.step s2 F1 hs).rdb pa) (r2.rdb pb) ez fun v H3 g3 F3 s3 r3 => ?_
    have s12 := s1.tr s2 F F1
    exact post v H3 g3 e2 z F3 (s12.tr (s3.mono fun _ q => nomatch q) F F2) (r3.back fun p q => s12.there F F2 q) wz⟩⟩
theorem se_bin {op : Operator} {r : R2} {f : D → D → Option D} (ho : OpR X (binaryOp op) r) (hf : OpD X.K r f k) (ha : SE X κ M ka a wa) (hb : SE X κ M kb b wb) (hs : stable ka M = true := by rfl) (pa : ka.rdable = true := by rfl) (pb : kb.rdable = true := by rfl) :
    SE X κ M k (.BinOp a op b pos) (wOp2 f wa wb) := se_tOp (pe_op ho ha hb) hf hs pa pb
theorem se_cmp {op : CmpOp} {r : R2} {f : D → D → Option D} (ho : OpR X (compareOp op) r) (hf : OpD X.K r f k) (ha : SE X κ M ka a wa) (hb : SE X κ M kb b wb) (hm : behindInMarks op b = false) (hs : stable ka M = true := by rfl) (pa : ka.rdable = true := by rfl) (pb : kb.rdable = true := by rfl) :
    SE X κ M k (.Compare a [op] [b] pos) (wOp2 f wa wb) := se_tOp (pe_cmpR ho ha hb hm) hf hs pa pb
theorem se_ix {r : R2} {f : D → D → Option D} (ho : IxR X r) (hf : OpD X.K r f k) (ha : SE X κ M ka a wa) (hb : SE X κ M kb b wb) (hx : PlainIx b) (hs : stable ka M = true := by rfl) (pa : ka.rdable = true := by rfl) (pb : kb.rdable = true := by rfl) :
    SE X κ M k (.Subscript a b pos) (wOp2 f wa wb) := se_tOp (pe_ix ho ha hb hx) hf hs pa pb
theorem se_un {op : UnaryOp} {r : V → Hp → VK → Prop} {f : D → Option D} (ho : UnR X (unaryOp op) r) (hf : Op1 X.K r f k) (ha : SE X κ M ka a wa) (pa : ka.rdable = true := by rfl) : SE X κ M k (.UnaryOp op a pos) (wOp1 f wa) :=
  SE.of (pe_un ho ha) fun σ H Q ⟨g, env, W, F, hw, post⟩ => ⟨g, env, _, F, hw, fun x H1 g1 e1 d1 F1 s1 r1 w1 => by
    obtain ⟨z, ez, wz⟩ := w1
    refine hf κ g1 e1 σ H1 x d1 z Q F1 (r1.rdb pa) ez fun v H3 g3 F3 s3 r3 => ?_
    exact post v H3 g3 e1 z F3 (s1.tr (s3.mono fun _ q => nomatch q) F F1) (r3.back fun p q => s1.there F F1 q) wz⟩

def ResA (K : PySem.W.Frag) (g : Rg) (H0 H : Hp) : List RK → List V → List D → Prop
  | [], [], [] => True
  | k :: ks, v :: vs, d :: ds => Res K g k H0 H v d ∧ ResA K g H0 H ks vs ds
  | _, _, _ => False
def cA (K : PySem.W.Frag) (κ : List SK) (M : List Nat) (ks : List RK) (w : WA) : TA := fun σ H Q => ∃ g env W, Frm K κ g env σ H ∧ w env W ∧
  ∀ vs H' g' env' ds, Frm K κ g' env' σ H' → EStep M g g' H H' → ResA K g' H H' ks vs ds → W ds env' → Q vs H'
def SA (X : Cx) (κ : List SK) (M : List Nat) (ks : List RK) (es : List Expr) (w : WA) : Prop := PA X es (cA X.K κ M ks w)
theorem SA.of {es : List Expr} {ks : List RK} {wl : WA} {t : TA} (h : PA X es t) (s : ∀ σ H Q, cA X.K κ M ks wl σ H Q → t σ H Q) : SA X κ M ks es wl := ⟨fun p pins s0 σ H Q I q => h.run p pins s0 σ H Q I (s σ H Q q)⟩
theorem ResA.back {K : PySem.W.Frag} {g : Rg} {H H0 H1 : Hp} (t : ∀ p, H1 p = none → H0 p = none) : ∀ {ks : List RK} {vs : List V} {ds : List D}, ResA K g H1 H ks vs ds → ResA K g H0 H ks vs ds
  | [], [], [], _ => trivial
  | _ :: _, _ :: _, _ :: _, h => ⟨h.1.back t, h.2.back t⟩
  | [], [], _ :: _, h => h.elim
  | [], _ :: _, _, h => h.elim
  | _ :: _, [], _, h => h.elim
  | _ :: _, _ :: _, [], h => h.elim
theorem sa_nil : SA X κ M [] [] waNil := SA.of pa_nil fun σ H Q ⟨g, env, W, F, hw, post⟩ => post [] H g env [] F .refl trivial hw
theorem sa_cons {es : List Expr} {ks : List RK} {wr : WA} (ha : SE X κ M ka a wa) (hr : SA X κ M ks es wr) (hs : stable ka M = true := by rfl) (he : starEach (a :: es) X.env = (false, eval a X.env) :: starEach es X.env := by rfl) : SA X κ M (ka :: ks) (a :: es) (waCons wa wr) :=
  SA.of (pa_cons ha hr he) fun σ H Q ⟨g, env, W, F, hw, post⟩ => ⟨g, env, _, F, hw, fun x H1 g1 e1 d1 F1 s1 r1 w1 => ⟨g1, e1, _, F1, w1, fun ys H2 g2 e2 ds F2 s2 r2 w2 =>
    post (x :: ys) H2 g2 e2 (d1 :: ds) F2 (s1.tr s2 F F1) ⟨(r1.step s2 F1 hs), r2.back fun p q => s1.there F F1 q⟩ w2⟩⟩
theorem ResA.len {K : PySem.W.Frag} {g : Rg} {H H0 : Hp} : ∀ {ks : List RK} {vs : List V} {ds : List D}, ResA K g H0 H ks vs ds → vs.length = ds.length
  | [], [], [], _ => rfl
  | _ :: _, _ :: _, _ :: _, h => by simp [ResA.len h.2]
  | [], [], _ :: _, h => h.elim
  | [], _ :: _, _, h => h.elim
  | _ :: _, [], _, h => h.elim
  | _ :: _, _ :: _, [], h => h.elim
/-- all of them told for good -/
theorem ResA.all {K : PySem.W.Frag} {g : Rg} {H H0 : Hp} : ∀ {ks : List RK} {vs : List V} {ds : List D}, ks.all (· == .fz) = true → ResA K g H0 H ks vs ds → RepAll K H g.own vs ds
  | [], [], [], _, _ => .nil
  | k :: _, _ :: _, _ :: _, hk, h => by
    simp only [List.all_cons, Bool.and_eq_true, beq_iff_eq] at hk
    obtain ⟨e, hk⟩ := hk
    subst e
    exact .cons h.1 (ResA.all hk h.2)
  | [], [], _ :: _, _, h => h.elim
  | [], _ :: _, _, _, h => h.elim
  | _ :: _, [], _, _, h => h.elim
  | _ :: _, _ :: _, [], _, h => h.elim
theorem lim_line {n : Nat} (h : n ≤ lim) : n ≤ sizeLine := Nat.le_trans h (by rw [sizeLine_eq]; decide)
/-- a display of a tuple, as it is laid -/
def tTupM (t : TA) : TE := fun σ H Q => t σ H fun xs H1 => xs.length ≤ sizeLine ∧ ∀ p o, H1 p = none → MkT o xs → Q (.ref p) (upd H1 p o)
theorem pe_tupM {es : List Expr} {t : TA} {x1} (h : PA X es t) : PE X (.Tuple es x1 pos) (tTupM t) := by
  refine ⟨fun pins s σ H Q I hq => ?_⟩
  refine wpAny_Tuple_spliced (thn (h.run pos pins s σ H _ I hq) fun us t1 ⟨xs, H1, I1, r, z, q⟩ => ⟨by rw [← r.length]; exact z, ?_⟩)
  obtain ⟨o, m, I2⟩ := mk_laid I1 r z rfl
  exact ⟨.ref t1.heap.objs.size, _, I2, rfl, q _ o (I1.hok.fresh (Nat.le_refl _)) m⟩
theorem se_tup {es : List Expr} {ks : List RK} {wl : WA} {x1} (h : SA X κ M ks es wl) (hk : ks.all (· == .fz) = true := by rfl) : SE X κ M .fz (.Tuple es x1 pos) (wTup wl) :=
  SE.of (pe_tupM h) fun σ H Q ⟨g, env, W, F, hw, post⟩ => ⟨g, env, _, F, hw, fun vs H1 g1 e1 ds F1 s1 r1 w1 => by
    obtain ⟨hl, w1⟩ := w1
    have z : vs.length ≤ sizeLine := by rw [r1.len]; exact lim_line hl
    refine ⟨z, fun p o np m => post _ _ g1 e1 _ (F1.new0 np) (s1.tr (.new0 np) F F1) ?_ w1⟩
    have own : ¬ g1.own p := fun q => F1.own_ne q np
    exact .tup own (m.rdT r1.len upd_same) z ((r1.all hk).keep (fun a o _ e => same_new np a o e) fun a q => .inl q)⟩
theorem se_lst {es : List Expr} {ks : List RK} {wl : WA} (h : SA X κ M ks es wl) (hk : ks.all (· == .fz) = true := by rfl) : SE X κ M .nw (.List es pos) (wList wl) :=
  SE.of (pe_lst h) fun σ H Q ⟨g, env, W, F, hw, post⟩ => ⟨g, env, _, F, hw, fun vs H1 g1 e1 ds F1 s1 r1 w1 => by
    obtain ⟨hl, w1⟩ := w1
    have z : vs.length ≤ sizeLine := by rw [r1.len]; exact lim_line hl
    refine ⟨z, fun p np => post _ _ (g1.add p) e1 _ (F1.new np) (s1.tr (.new np) F F1) ⟨p, rfl, s1.there F F1 np, .inr rfl, fun q => F1.own_ne (F1.p_own q) np, .lst upd_same z ?_⟩ w1⟩
    exact (r1.all hk).keep (fun a o _ e => same_new np a o e) fun a q => (Rg.add_own.mp q).imp id fun e => by rw [e]; exact np⟩
def RdA (K : PySem.W.Frag) (H : Hp) (S : Addr → Prop) : List V → List D → Prop
  | [], [] => True
  | v :: vs, d :: ds => RdB K H S v d ∧ RdA K H S vs ds
  | _, _ => False
theorem ResA.rda {K : PySem.W.Frag} {g : Rg} {H H0 : Hp} : ∀ {ks : List RK} {vs : List V} {ds : List D}, ks.all RK.rdable = true → ResA K g H0 H ks vs ds → RdA K H g.own vs ds
  | [], [], [], _, _ => trivial
  | k :: _, _ :: _, _ :: _, hk, h => by
    simp only [List.all_cons, Bool.and_eq_true] at hk
    exact ⟨h.1.rdb hk.1, ResA.rda hk.2 h.2⟩
  | [], [], _ :: _, _, h => h.elim
  | [], _ :: _, _, _, h => h.elim
  | _ :: _, [], _, _, h => h.elim
  | _ :: _, _ :: _, [], _, h => h.elim
def BlD (K : PySem.W.Frag) (r : List V → Hp → VK → Prop) (f : List D → Option D) (k : RK) : Prop := ∀ (κ : List SK) (g : Rg) (env : En) (σ : St) (H : Hp) (vs : List V) (ds : List D) (dz : D) (Q : VK), Frm K κ g env σ H → RdA K H g.own vs ds → f ds = some dz →
  (∀ v H' g', Frm K κ g' env σ H' → EStep [] g g' H H' → Res K g' k H H' v dz → Q v H') → r vs H Q
theorem se_tCB {r : List V → Hp → VK → Prop} {f : List D → Option D} {E : Expr} {ks : List RK} {wl : WA} (h : PE X E (tCB r (cA X.K κ M ks wl))) (hf : BlD X.K r f k) (hk : ks.all RK.rdable = true) : SE X κ M k E (wBlt f wl) :=
  SE.of h fun σ H Q ⟨g, env, W, F, hw, post⟩ => ⟨g, env, _, F, hw, fun vs H1 g1 e1 ds F1 s1 r1 w1 => by
    obtain ⟨z, ez, wz⟩ := w1
    refine hf κ g1 e1 σ H1 vs ds z Q F1 (r1.rda hk) ez fun v H3 g3 F3 s3 r3 => ?_
    exact post v H3 g3 e1 z F3 (s1.tr (s3.mono fun _ q => nomatch q) F F1) (r3.back fun p q => s1.there F F1 q) wz⟩
end
end G7

set_option maxRecDepth 100000
namespace G7
open PySem PySem.Spec PyProof.Rows L2

inductive PM where | fz | rd | pl
  deriving DecidableEq
def ArgOk (K : PySem.W.Frag) (H : Hp) (O P : Addr → Prop) (m : PM) (v : V) (d : D) : Prop := match m with
  | .fz => Rep K H O v d
  | .rd => Rep K H O v d ∨ ∃ a, v = .ref a ∧ ¬ P a ∧ O a ∧ ObjR K H O a d
  | .pl => ∃ a, v = .ref a ∧ P a ∧ d = .none
def ArgsOk (K : PySem.W.Frag) (H : Hp) (O P : Addr → Prop) : List PM → List V → List D → Prop
  | [], [], [] => True
  | m :: ms, v :: vs, d :: ds => ArgOk K H O P m v d ∧ ArgsOk K H O P ms vs ds
  | _, _, _ => False
def ResC (K : PySem.W.Frag) (k : RK) (H H' : Hp) (O : Addr → Prop) (v : V) (d : D) : Prop := match k with
  | .nw => ∃ p, v = .ref p ∧ H p = none ∧ Obj1 K H' (fun a => O a ∨ a = p) p d
  | _ => Rep K H' O v d
/-- the promise: S tells of the arguments' data what is wanted of the answer's -/
def spOf (K : PySem.W.Frag) (ms : List PM) (k : RK) (S : FS) : Sp := fun vs H Q _ => ∃ (O P : Addr → Prop) (ds : List D) (Post : D → Prop),
  (∀ a, O a → Tk H a) ∧ (∀ a, P a → O a ∧ Pool H a) ∧ ArgsOk K H O P ms vs ds ∧ S ds Post ∧
  ∀ v H' d, Post d → (∀ b o, H b = some o → ¬ P b → H' b = some o) → (∀ b, P b → Pool H' b) → ResC K k H H' O v d → Q v H'
theorem ArgsOk.len {K : PySem.W.Frag} {H : Hp} {O P : Addr → Prop} : ∀ {ms : List PM} {vs : List V} {ds : List D}, ArgsOk K H O P ms vs ds → vs.length = ms.length ∧ ds.length = ms.length
  | [], [], [], _ => ⟨rfl, rfl⟩
  | _ :: _, _ :: _, _ :: _, h => by have := ArgsOk.len h.2; simp [this.1, this.2]
  | [], [], _ :: _, h => h.elim
  | [], _ :: _, _, h => h.elim
  | _ :: _, [], _, h => h.elim
  | _ :: _, _ :: _, [], h => h.elim
def pass1 : RK → PM → Bool
  | .fz, .fz => true
  | .pl, .pl => true
  | .pl, _ => false
  | .np, _ => false
  | _, .rd => true
  | _, _ => false
def passA : List RK → List PM → Bool
  | [], [] => true
  | k :: ks, m :: ms => pass1 k m && passA ks ms
  | _, _ => false
section
variable {K : PySem.W.Frag} {κ : List SK} {g g' : Rg} {env env' : En} {σ : St} {H H' H0 : Hp} {M : List Nat}
theorem Res.arg {k : RK} {m : PM} {v : V} {d : D} (f : Frm K κ g env σ H) (hp : pass1 k m = true) (r : Res K g k H0 H v d) : ArgOk K H g.own g.P m v d := by
  cases k with
  | fz => cases m <;> first | exact r | exact .inl r | simp [pass1] at hp
  | rd => cases m <;> first | exact r.imp id (fun ⟨a, e, np, hi, q⟩ => ⟨a, e, np, .inl (f.il a hi), q⟩) | simp [pass1] at hp
  | nw => cases m <;> first | (obtain ⟨p, e, _, hO, np, q⟩ := r; exact .inr ⟨p, e, np, .inl hO, q.r⟩) | simp [pass1] at hp
  | ow i => cases m <;> first | (obtain ⟨p, e, ea, q⟩ := r; exact .inr ⟨p, e, fun z => (f.alo i p ea).1 (f.pl p z).1, .inr ⟨i, ea⟩, q.r⟩) | simp [pass1] at hp
  | pl => cases m <;> first | exact r | simp [pass1] at hp
  | np => cases m <;> simp [pass1] at hp
theorem ResA.args (f : Frm K κ g env σ H) : ∀ {ks : List RK} {ms : List PM} {vs : List V} {ds : List D}, passA ks ms = true → ResA K g H0 H ks vs ds → ArgsOk K H g.own g.P ms vs ds
  | [], [], [], [], _, _ => trivial
  | k :: ks, m :: ms, v :: vs, d :: ds, hp, h => by
    simp only [passA, Bool.and_eq_true] at hp
    exact ⟨h.1.arg f hp.1, ResA.args f hp.2 h.2⟩
  | [], _ :: _, _, _, hp, _ => by simp [passA] at hp
  | _ :: _, [], _, _, hp, _ => by simp [passA] at hp
  | [], [], [], _ :: _, _, h => h.elim
  | [], [], _ :: _, _, _, h => h.elim
  | _ :: _, _ :: _, [], _, _, h => h.elim
  | _ :: _, _ :: _, _ :: _, [], _, h => h.elim
/-- behind a call -/
theorem ResC.back {k : RK} {v : V} {d : D} (f : Frm K κ g env σ H) (hk : k = .fz ∨ k = .nw) (kp : ∀ b o, H b = some o → ¬ g.P b → H' b = some o) (pl : ∀ b, g.P b → Pool H' b) (r : ResC K k H H' g.own v d) :
    ∃ g', Frm K κ g' env σ H' ∧ EStep [] g g' H H' ∧ Res K g' k H H' v d := by
  rcases hk with rfl | rfl
  · refine ⟨g, f.next kp pl rfl rfl rfl (fun a p => (f.pl a p).1) f.il fun a q => .inl q, ⟨rfl, rfl, rfl, fun _ q => q, fun _ q => .inl q, fun b o e p _ => kp b o e p, fun b p _ => pl b p⟩, r⟩
  · obtain ⟨p, rfl, n, r⟩ := r
    have F2 : Frm K κ (g.add p) env σ H' := f.next kp pl rfl rfl rfl (fun a p => .inl (f.pl a p).1) (fun a p => .inl (f.il a p)) fun a q => q.imp id fun e => by subst e; exact ⟨n, r.tk⟩
    refine ⟨g.add p, F2, ⟨rfl, rfl, rfl, fun _ q => .inl q, fun a q => q.imp id fun e => by subst e; exact n, fun b o e p _ => kp b o e p, fun b p _ => pl b p⟩, p, rfl, n, .inr rfl, fun q => f.own_ne (f.p_own q) n, ?_⟩
    exact r.keep (fun _ q => q) (fun _ _ _ q => q) fun a q => .inl (Rg.add_own.mp q)
end
section
variable {X : Cx} {κ : List SK} {M : List Nat} {k : RK} {pos : Pos}
theorem se_call {lv : Nat} {f : Addr} {fd : FuncData} {ps : List Str} {ms : List PM} {S : FS} {x : Str} {p : Pos} {e : Expr} {es : List Expr} {ks : List RK} {wl : WA} (F : FnOk X.prog X.w X.K X.mg X.base CX0 lv f fd ps (spOf X.K ms k S)) (hr : Room lv X.A) (hg : Gl X x) (hm : X.mg x = some (.ref f))
    (hk : PySem.W.keepIn X.K (.ref f) = true) (hb : Binds X.K fd ps []) (ha : SA X κ M ks (e :: es) wl) (hp : passA ks ms = true := by rfl) (kk : k = .fz ∨ k = .nw := by first | exact .inl rfl | exact .inr rfl) (hdb : (x == ("__debug__" : Str)) = false := by decide)
    (he : starEach (e :: es) X.env = (false, eval e X.env) :: starEach es X.env := by rfl) (hpl : (backTo pos (starEach es X.env)).any (·.1) = false := by rfl) : SE X κ M k (.Call (.Name x p) (e :: es) [] pos) (wCall S wl) :=
  SE.of (pe_call (E := E0) F hr hg hm hk hb .nil pass0 ha hdb he hpl) fun σ H Q ⟨g, env, W, Fr0, hw, post⟩ => ⟨g, env, _, Fr0, hw, fun vs H1 g1 e1 ds F1 s1 r1 w1 => by
    show spOf X.K ms k S (vs ++ []) H1 Q E0
    rw [List.append_nil]
    refine ⟨g1.own, g1.P, ds, _, fun a q => F1.own_tk q, fun a q => ⟨F1.p_own q, (F1.pl a q).2⟩, r1.args F1 hp, w1, fun v H2 d wd kp pl rc => ?_⟩
    obtain ⟨g2, F2, s2, r2⟩ := ResC.back F1 kk kp pl rc
    exact post v H2 g2 e1 d F2 (s1.tr (s2.mono fun _ q => nomatch q) Fr0 F1) (r2.back fun p q => s1.there Fr0 F1 q) wd⟩
theorem se_call0 {lv : Nat} {f : Addr} {fd : FuncData} {ps : List Str} {S : FS} {x : Str} {p : Pos} (F : FnOk X.prog X.w X.K X.mg X.base CX0 lv f fd ps (spOf X.K [] k S)) (hr : Room lv X.A) (hg : Gl X x) (hm : X.mg x = some (.ref f))
    (hk : PySem.W.keepIn X.K (.ref f) = true) (hb : Binds X.K fd ps []) (kk : k = .fz ∨ k = .nw := by first | exact .inl rfl | exact .inr rfl) (hdb : (x == ("__debug__" : Str)) = false := by decide) : SE X κ M k (.Call (.Name x p) [] [] pos) (wCall S waNil) :=
  SE.of (pe_call0 (E := E0) F hr hg hm hk hb .nil pass0 hdb) fun σ H Q ⟨g, env, W, Fr0, hw, post⟩ => by
    refine ⟨g.own, g.P, [], _, fun a q => Fr0.own_tk q, fun a q => ⟨Fr0.p_own q, (Fr0.pl a q).2⟩, trivial, hw, fun v H2 d wd kp pl rc => ?_⟩
    obtain ⟨g2, F2, s2, r2⟩ := ResC.back Fr0 kk kp pl rc
    exact post v H2 g2 env d F2 (s2.mono fun _ q => nomatch q) r2 wd
theorem se_blt {id : String} {r : List V → Hp → VK → Prop} {f : List D → Option D} {x : Str} {p : Pos} {e : Expr} {es : List Expr} {ks : List RK} {wl : WA} (hc : CallR X (.builtin id) r) (hf : BlD X.K r f k) (hg : Gl X x) (hm : X.mg x = none) (hv : bootBuiltins x = some (.builtin id)) (ha : SA X κ M ks (e :: es) wl)
    (hk : ks.all RK.rdable = true := by rfl) (hn : x ≠ "__name__" := by decide) (hdb : (x == ("__debug__" : Str)) = false := by decide)
    (he : starEach (e :: es) X.env = (false, eval e X.env) :: starEach es X.env := by rfl) (hpl : (backTo pos (starEach es X.env)).any (·.1) = false := by rfl) : SE X κ M k (.Call (.Name x p) (e :: es) [] pos) (wBlt f wl) :=
  se_tCB (pe_callB hc hg hm hv ha hn hdb he hpl) hf hk
theorem se_bty {T : String} {r : List V → Hp → VK → Prop} {f : List D → Option D} {x : Str} {p : Pos} {e : Expr} {es : List Expr} {ks : List RK} {wl : WA} (hc : CallR X (.type T) r) (hf : BlD X.K r f k) (hg : Gl X x) (hm : X.mg x = none) (hv : bootBuiltins x = some (.type T)) (ha : SA X κ M ks (e :: es) wl)
    (hk : ks.all RK.rdable = true := by rfl) (hn : x ≠ "__name__" := by decide) (hdb : (x == ("__debug__" : Str)) = false := by decide)
    (he : starEach (e :: es) X.env = (false, eval e X.env) :: starEach es X.env := by rfl) (hpl : (backTo pos (starEach es X.env)).any (·.1) = false := by rfl) : SE X κ M k (.Call (.Name x p) (e :: es) [] pos) (wBlt f wl) :=
  se_tCB (pe_callTy hc hg hm hv ha hn hdb he hpl) hf hk
end

section
variable {X : Cx} {κ : List SK} {M : List Nat} {a b c : Expr} {w wa wb : WE} {ka kb k : RK} {pos : Pos} {rest : List Expr} {s t : WT}
theorem st_tB {te : TE} {c : Expr} (h : PT X c (L2.tB te)) (i : ∀ σ H Q, cE X.K κ M .fz w σ H Q → te σ H Q) : ST X κ M c (tVal w) :=
  ST.of h fun σ H Q ⟨g, env, W, F, hw, post⟩ => i σ H _ ⟨g, env, _, F, hw, fun v H' g' env' d F' s r ⟨b, e, wb⟩ => by
    subst e
    exact ⟨b, r.toBl, post b H' g' env' F' s wb⟩⟩
theorem st_val (h : SE X κ M .fz a w) (he : ∀ whole, isTrue a X.env whole = (do let v ← whole; standAt a.pos; holding [v] (truthy v)) := by intro _; rfl) : ST X κ M a (tVal w) :=
  st_tB (pt_val h he) fun _ _ _ q => q
theorem st_cmp {op : CmpOp} {r : R2} {f : D → D → Option D} (ho : OpR X (compareOp op) r) (hf : OpD X.K r f .fz) (ha : SE X κ M ka a wa) (hb : SE X κ M kb b wb) (hm : behindInMarks op b = false) (hs : stable ka M = true := by rfl) (pa : ka.rdable = true := by rfl) (pb : kb.rdable = true := by rfl) :
    ST X κ M (.Compare a [op] [b] pos) (tVal (wOp2 f wa wb)) :=
  ST.of (pt_cmpR ho ha hb hm) fun σ H Q ⟨g, env, W, F, hw, post⟩ => ⟨g, env, _, F, hw, fun x H1 g1 e1 d1 F1 s1 r1 w1 => ⟨g1, e1, _, F1, w1, fun y H2 g2 e2 d2 F2 s2 r2 w2 => by
    obtain ⟨z, ez, bb, eb, wz⟩ := w2
    subst eb
    refine hf κ g2 e2 σ H2 x y d1 d2 _ _ F2 ((r1.step s2 F1 hs).rdb pa) (r2.rdb pb) ez fun v H3 g3 F3 s3 r3 => ?_
    have s12 := s1.tr s2 F F1
    exact ⟨bb, r3.toBl, post bb H3 g3 e2 F3 (s12.tr (s3.mono fun _ q => nomatch q) F F2) wz⟩⟩⟩
theorem st_not (h : ST X κ M a s) : ST X κ M (.UnaryOp .Not a pos) (tNot s) :=
  ST.of (pt_not h) fun σ H Q ⟨g, env, W, F, hw, post⟩ => ⟨g, env, _, F, hw, fun b H' g' env' F' s' w' => post (!b) H' g' env' F' s' w'⟩
def SW (X : Cx) (κ : List SK) (M : List Nat) (e : Expr) (w : WT) : Prop := PW X e (cT X.K κ M w)
theorem SW.of {c : Expr} {wt : WT} {t : TT} (h : PW X c t) (s : ∀ σ H Q, cT X.K κ M wt σ H Q → t σ H Q) : SW X κ M c wt := ⟨fun wh pins s0 σ H Q I q => h.run wh pins s0 σ H Q I (s σ H Q q)⟩
theorem SW.st (h : SW X κ M c s) : ST X κ M c s := ⟨h.run _⟩
theorem sw_and1 (h : ST X κ M a s) : SW X κ M (.BoolOp .And [a] pos) s := pw_and1 h
theorem sw_or1 (h : ST X κ M a s) : SW X κ M (.BoolOp .Or [a] pos) s := pw_or1 h
theorem sw_and (ha : ST X κ M a s) (hb : SW X κ M (.BoolOp .And (b :: rest) pos) t) : SW X κ M (.BoolOp .And (a :: b :: rest) pos) (tAnd s t) :=
  SW.of (pw_and ha hb) fun σ H Q ⟨g, env, W, F, hw, post⟩ => ⟨g, env, _, F, hw, fun b H' g' env' F' s' w' => by
    cases b with
    | true => exact ⟨g', env', _, F', w', fun b2 H2 g2 e2 F2 s2 w2 => post b2 H2 g2 e2 F2 (s'.tr s2 F F') w2⟩
    | false => exact post false H' g' env' F' s' w'⟩
theorem sw_or (ha : ST X κ M a s) (hb : SW X κ M (.BoolOp .Or (b :: rest) pos) t) : SW X κ M (.BoolOp .Or (a :: b :: rest) pos) (tOr s t) :=
  SW.of (pw_or ha hb) fun σ H Q ⟨g, env, W, F, hw, post⟩ => ⟨g, env, _, F, hw, fun b H' g' env' F' s' w' => by
    cases b with
    | false => exact ⟨g', env', _, F', w', fun b2 H2 g2 e2 F2 s2 w2 => post b2 H2 g2 e2 F2 (s'.tr s2 F F') w2⟩
    | true => exact post true H' g' env' F' s' w'⟩
theorem se_one {op} (h : SE X κ M k a w) : SE X κ M k (.BoolOp op [a] pos) w := pe_one h
theorem se_and (ha : SE X κ M .fz a wa) (hb : SE X κ M .fz (.BoolOp .And (b :: rest) pos) wb) : SE X κ M .fz (.BoolOp .And (a :: b :: rest) pos) (wAnd wa wb) :=
  SE.of (pe_and ha hb) fun σ H Q ⟨g, env, W, F, hw, post⟩ => ⟨g, env, _, F, hw, fun x H' g' env' d F' s' r ⟨c, e, w'⟩ => by
    subst e
    refine ⟨c, r.toBl, ?_⟩
    cases c with
    | true => exact ⟨g', env', _, F', w', fun v H2 g2 e2 d2 F2 s2 r2 w2 => post v H2 g2 e2 d2 F2 (s'.tr s2 F F') r2 w2⟩
    | false => exact post (.bl false) H' g' env' _ F' s' (.bl false) w'⟩
theorem se_or (ha : SE X κ M .fz a wa) (hb : SE X κ M .fz (.BoolOp .Or (b :: rest) pos) wb) : SE X κ M .fz (.BoolOp .Or (a :: b :: rest) pos) (wOr wa wb) :=
  SE.of (pe_or ha hb) fun σ H Q ⟨g, env, W, F, hw, post⟩ => ⟨g, env, _, F, hw, fun x H' g' env' d F' s' r ⟨c, e, w'⟩ => by
    subst e
    refine ⟨c, r.toBl, ?_⟩
    cases c with
    | false => exact ⟨g', env', _, F', w', fun v H2 g2 e2 d2 F2 s2 r2 w2 => post v H2 g2 e2 d2 F2 (s'.tr s2 F F') r2 w2⟩
    | true => exact post (.bl true) H' g' env' _ F' s' (.bl true) w'⟩
theorem se_not (ha : SE X κ M .fz a wa) : SE X κ M .fz (.UnaryOp .Not a pos) (wNot wa) :=
  SE.of (pe_not ha) fun σ H Q ⟨g, env, W, F, hw, post⟩ => ⟨g, env, _, F, hw, fun x H' g' env' d F' s' r ⟨c, e, w'⟩ => by
    subst e
    exact ⟨c, r.toBl, post (.bl (!c)) H' g' env' _ F' s' (.bl _) w'⟩⟩
theorem chain_go {r r' : R2} {f f' : D → D → Option D} {wc : WE} {kc : RK} (hf : OpD X.K r f .fz) (hf' : OpD X.K r' f' .fz) (ma : stable ka M = true) (mb : stable kb M = true) (pa : ka.rdable = true) (pb : kb.rdable = true) (pc : kc.rdable = true) (σ : St) (H : Hp) (Q : VK)
    (h : cE X.K κ M .fz (wChain f f' wa wb wc) σ H Q) : tChain r r' (cE X.K κ M ka wa) (cE X.K κ M kb wb) (cE X.K κ M kc wc) σ H Q := by
  obtain ⟨g, env, W, F, hw, post⟩ := h
  refine ⟨g, env, _, F, hw, fun x H1 g1 e1 d1 F1 s1 r1 w1 => ⟨g1, e1, _, F1, w1, fun y H2 g2 e2 d2 F2 s2 r2 w2 => ?_⟩⟩
  obtain ⟨kk, ek, w2⟩ := w2
  have s12 := s1.tr s2 F F1
  refine hf κ g2 e2 σ H2 x y d1 d2 _ _ F2 ((r1.step s2 F1 ma).rdb pa) (r2.rdb pb) ek fun v H3 g3 F3 s3 r3 => ⟨kk, r3.toBl, ?_⟩
  have s3' : EStep M g2 g3 H2 H3 := s3.mono fun _ q => nomatch q
  have s123 := s12.tr s3' F F2
  cases kk with
  | false => exact post _ H3 g3 e2 _ F3 s123 (.bl false) w2
  | true =>
    refine ⟨g3, e2, _, F3, w2, fun z H4 g4 e4 d4 F4 s4 r4 w4 => ?_⟩
    obtain ⟨rr, er, w4⟩ := w4
    refine hf' κ g4 e4 σ H4 y z d2 d4 rr Q F4 (((r2.step s3' F2 mb).step s4 F3 mb).rdb pb) (r4.rdb pc) er fun u H5 g5 F5 s5 r5 => ?_
    exact post u H5 g5 e4 rr F5 ((s123.tr s4 F F3).tr (s5.mono fun _ q => nomatch q) F F4) r5 w4
theorem st_chain {op op' : CmpOp} {r r' : R2} {f f' : D → D → Option D} {wc : WE} {kc : RK} (ho : OpR X (compareOp op) r) (hf : OpD X.K r f .fz) (ho' : OpR X (compareOp op') r') (hf' : OpD X.K r' f' .fz) (ha : SE X κ M ka a wa) (hb : SE X κ M kb b wb) (hc : SE X κ M kc c wc)
    (hm : lastMarks [op, op'] [b, c] = false := by with_unfolding_all rfl) (ma : stable ka M = true := by rfl) (mb : stable kb M = true := by rfl) (pa : ka.rdable = true := by rfl) (pb : kb.rdable = true := by rfl) (pc : kc.rdable = true := by rfl) : ST X κ M (.Compare a [op, op'] [b, c] pos) (tVal (wChain f f' wa wb wc)) :=
  ST.of (pt_chain ho ho' ha hb hc hm) fun σ H Q ⟨g, env, W, F, hw, post⟩ => chain_go hf hf' ma mb pa pb pc σ H _ ⟨g, env, _, F, hw, fun v H' g' env' d F' s r ⟨b, e, wb⟩ => by
    subst e
    exact ⟨b, r.toBl, post b H' g' env' F' s wb⟩⟩
end
end G7

set_option maxRecDepth 100000
namespace G7
open PySem PySem.Spec PyProof.Rows L2

/-- a place of the store -/
def stPl (κ : List SK) (i : Nat) : Prop := 1000 ≤ i ∧ kindOf κ i ≠ .o ∧ kindOf κ i ≠ .f
def baseO (κ : List SK) (g : Rg) (a : Addr) : Prop := g.O a ∨ ∃ i, (kindOf κ i = .q ∨ stPl κ i) ∧ g.al i = some a
structure SStep (κ : List SK) (M : List Nat) (g g' : Rg) (H H' : Hp) : Prop where
  pu : ∀ a, g.P a → g'.P a
  pd : ∀ a, g'.P a → g.P a ∨ H a = none
  up : ∀ a, g.O a → g'.O a
  dn : ∀ a, g'.O a → g.O a ∨ H a = none
  al : ∀ i a, g'.al i = some a → g.al i = some a ∨ (∃ j, j ∈ M ∧ (kindOf κ j = .o ∨ kindOf κ j = .f) ∧ g.al j = some a) ∨ H a = none
  I : g'.I = g.I
  qs : ∀ i, isQ (kindOf κ i) = true → g'.al i = g.al i
  keep : ∀ b o, H b = some o → ¬ g.P b → (∀ i ∈ M, g.al i ≠ some b) → (999 ∈ M → g.O b ∨ ∀ xs, o ≠ .lst xs) → H' b = some o
  th : ∀ b, H b ≠ none → H' b ≠ none
  pool : ∀ b, g.P b → Pool H' b
  st : ∀ i a, stPl κ i → g.al i = some a → g'.al i = some a
def ResR (K : PySem.W.Frag) (κ : List SK) (k : RK) (g : Rg) (H H' : Hp) (v : V) (d : D) : Prop := match k with
  | .nw => ∃ p, v = .ref p ∧ (H p = none ∨ ∃ i, (kindOf κ i = .o ∨ kindOf κ i = .f) ∧ g.al i = some p) ∧ Obj1 K H' (fun a => baseO κ g a ∨ a = p) p d
  | _ => Rep K H' (baseO κ g) v d
def cS (K : PySem.W.Frag) (κ : List SK) (M : List Nat) (k : RK) (w : WS) : TS := fun D σ H => ∃ g env W, Frm K κ g env σ H ∧ w W env ∧
  (∀ g' env' σ' H', Frm K κ g' env' σ' H' → SStep κ M g g' H H' → W.nx env' → D.nx σ' H') ∧
  (∀ g' env' σ' H', Frm K κ g' env' σ' H' → SStep κ M g g' H H' → W.bk env' → D.bk σ' H') ∧
  (∀ g' env' σ' H', Frm K κ g' env' σ' H' → SStep κ M g g' H H' → W.ct env' → D.ct σ' H') ∧
  (∀ g' env' σ' H' v d, Frm K κ g' env' σ' H' → SStep κ M g g' H H' → ResR K κ k g H H' v d → W.rt d env' → D.rt v H')
def SS (X : Cx) (κ : List SK) (M : List Nat) (k : RK) (st : Stmt) (w : WS) : Prop := PS X st (cS X.K κ M k w)
def SSs (X : Cx) (κ : List SK) (M : List Nat) (k : RK) (st : List Stmt) (w : WS) : Prop := PSs X st (cS X.K κ M k w)

section
variable {K : PySem.W.Frag} {κ : List SK} {g g' g2 : Rg} {env env' env2 : En} {σ σ' σ2 : St} {H H' H2 : Hp} {M M' : List Nat} {v : V} {d : D} {k : RK}
theorem SStep.refl (f : Frm K κ g env σ H) : SStep κ M g g H H := ⟨fun _ h => h, fun _ h => .inl h, fun _ h => h, fun _ h => .inl h, fun _ _ h => .inl h, rfl, fun _ _ => rfl, fun _ _ h _ _ _ => h, fun _ h => h, fun b p => (f.pl b p).2, fun _ _ _ h => h⟩
theorem SStep.trans (h : SStep κ M g g' H H') (h2 : SStep κ M g' g2 H' H2) : SStep κ M g g2 H H2 := by
  have bk : ∀ a, H' a = none → H a = none := fun a e => by
    cases q : H a with
    | none => rfl
    | some o => exact absurd e (h.th a (by rw [q]; simp))
  refine ⟨fun a p => h2.pu a (h.pu a p), fun a p => (h2.pd a p).elim (h.pd a) fun e => .inr (bk a e), fun a p => h2.up a (h.up a p), fun a p => (h2.dn a p).elim (h.dn a) fun e => .inr (bk a e),
    fun i a p => (h2.al i a p).elim (h.al i a) fun e => e.elim (fun ⟨j, hj, kj, ej⟩ => (h.al j a ej).elim (fun z => .inr (.inl ⟨j, hj, kj, z⟩)) .inr) fun e => .inr (.inr (bk a e)), h2.I.trans h.I, fun i q => (h2.qs i q).trans (h.qs i q), fun b o e p q v => ?_, fun b e => h2.th b (h.th b e), fun b p => h2.pool b (h.pu b p), fun i a hi e => h2.st i a hi (h.st i a hi e)⟩
  refine h2.keep b o (h.keep b o e p q v) (fun z => (h.pd b z).elim p fun n => by rw [e] at n; cases n) (fun i hi z => ?_) fun h9 => (v h9).imp (h.up b) id
  rcases h.al i b z with n | ⟨j, hj, _, n⟩ | n
  · exact q i hi n
  · exact q j hj n
  · rw [e] at n; cases n
theorem SStep.mono (h : SStep κ M g g' H H') (s : ∀ i ∈ M, i ∈ M') : SStep κ M' g g' H H' := ⟨h.pu, h.pd, h.up, h.dn, fun i a e => (h.al i a e).imp id (Or.imp (fun ⟨j, hj, r⟩ => ⟨j, s j hj, r⟩) id), h.I, h.qs, fun b o e p q v => h.keep b o e p (fun i hi => q i (s i hi)) fun h9 => v (s _ h9), h.th, h.pool, h.st⟩
theorem EStep.toS (h : EStep M g g' H H') (f : Frm K κ g env σ H) (f' : Frm K κ g' env' σ' H') : SStep κ M g g' H H' := by
  refine ⟨fun a p => by rw [h.P]; exact p, fun a p => by rw [h.P] at p; exact .inl p, h.up, h.dn, fun i a e => by rw [h.al] at e; exact .inl e, h.I, fun i _ => by rw [h.al], fun b o e p q _ => h.keep b o e p q, fun b n e => ?_, fun b p => h.pool b p (f.pl b p).2, fun i a _ e => by rw [h.al]; exact e⟩
  have : ∀ {σ1 : St}, Frm K κ g env σ1 H → True := fun _ => trivial
  cases q : H b with
  | none => exact n q
  | some o =>
    by_cases hp : g.P b
    · obtain ⟨x, y, z, r⟩ := h.pool b hp (f.pl b hp).2
      rw [r] at e; cases e
    · by_cases hm : ∀ i ∈ M, g.al i ≠ some b
      · rw [h.keep b o q hp hm] at e; cases e
      · have : ∃ i, i ∈ M ∧ g.al i = some b := by
          apply Classical.byContradiction
          intro c
          exact hm fun i hi z => c ⟨i, hi, z⟩
        obtain ⟨i, hi, z⟩ := this
        exact absurd e (f'.alo i b (by rw [h.al]; exact z)).2
theorem SStep.base (h : SStep κ M g g' H H') : ∀ a, baseO κ g a → baseO κ g' a := fun a q => by
  rcases q with q | ⟨i, hk, q⟩
  · exact .inl (h.up a q)
  · refine .inr ⟨i, hk, ?_⟩
    rcases hk with hk | hk
    · rw [h.qs i (by rw [hk]; rfl)]; exact q
    · exact h.st i a hk q
theorem baseO_own {a : Addr} (h : baseO κ g a) : g.own a := h.imp id fun ⟨i, _, e⟩ => ⟨i, e⟩
/-- an answer behind a step is one ahead of it -/
theorem ResR.back (h : SStep κ M g g' H H') (r : ResR K κ k g' H' H2 v d) : ResR K κ k g H H2 v d := by
  have less : ∀ {v d}, Rep K H2 (baseO κ g') v d → Rep K H2 (baseO κ g) v d := fun r => r.keep (fun _ _ _ q => q) fun a q => .inl (h.base a q)
  cases k with
  | fz => exact less r
  | rd => exact less r
  | ow i => exact less r
  | pl => exact less r
  | np => exact less r
  | nw =>
    obtain ⟨p, rfl, n, r⟩ := r
    refine ⟨p, rfl, ?_, r.keep (fun _ q => q) (fun _ _ _ q => q) fun a q => .inl (q.imp (h.base a) id)⟩
    rcases n with n | ⟨i, hk, e⟩
    · left
      cases q : H p with
      | none => rfl
      | some o => exact absurd n (h.th p (by rw [q]; simp))
    · rcases h.al i p e with z | ⟨j, _, kj, z⟩ | z
      · exact .inr ⟨i, hk, z⟩
      · exact .inr ⟨j, kj, z⟩
      · exact .inl z
end
section
variable {X : Cx} {κ : List SK} {M Me : List Nat} {k ke : RK} {st : Stmt} {sts : List Stmt} {e : Expr} {w wa : WE} {s t : WS} {pos : Pos}
theorem SS.of {t' : TS} (h : PS X st t') (i : ∀ D σ H, cS X.K κ M k s D σ H → t' D σ H) : SS X κ M k st s := ⟨fun pins s0 σ H D I q => h.run pins s0 σ H D I (i D σ H q)⟩
theorem SSs.of {t' : TS} (h : PSs X sts t') (i : ∀ D σ H, cS X.K κ M k s D σ H → t' D σ H) : SSs X κ M k sts s := ⟨fun pins s0 σ H D I q => h.run pins s0 σ H D I (i D σ H q)⟩
theorem SSs.imp {s' : WS} (h : SSs X κ M k sts s) (i : ∀ W en, s' W en → s W en) : SSs X κ M k sts s' := SSs.of h fun D σ H ⟨g, env, W, F, hw, r⟩ => ⟨g, env, W, F, i _ _ hw, r⟩
theorem SS.mono {M' : List Nat} (h : SS X κ M k st s) (m : ∀ i ∈ M, i ∈ M' := by decide) : SS X κ M' k st s := SS.of h fun D σ H ⟨g, env, W, F, hw, n, b, c, r⟩ =>
  ⟨g, env, W, F, hw, fun g' env' σ' H' F' s' => n g' env' σ' H' F' (s'.mono m), fun g' env' σ' H' F' s' => b g' env' σ' H' F' (s'.mono m), fun g' env' σ' H' F' s' => c g' env' σ' H' F' (s'.mono m), fun g' env' σ' H' v d F' s' => r g' env' σ' H' v d F' (s'.mono m)⟩
/-- what a statement does, going on behind a step -/
theorem cS.go {K : PySem.W.Frag} {g g1 : Rg} {env1 : En} {σ1 : St} {H H1 : Hp} {W1 : WD} (F1 : Frm K κ g1 env1 σ1 H1) (s1 : SStep κ M g g1 H H1) (hw : s W1 env1) {D' : Ends}
    (n : ∀ g' env' σ' H', Frm K κ g' env' σ' H' → SStep κ M g g' H H' → W1.nx env' → D'.nx σ' H') (b : ∀ g' env' σ' H', Frm K κ g' env' σ' H' → SStep κ M g g' H H' → W1.bk env' → D'.bk σ' H')
    (c : ∀ g' env' σ' H', Frm K κ g' env' σ' H' → SStep κ M g g' H H' → W1.ct env' → D'.ct σ' H') (r : ∀ g' env' σ' H' v d, Frm K κ g' env' σ' H' → SStep κ M g g' H H' → ResR K κ k g H H' v d → W1.rt d env' → D'.rt v H') : cS K κ M k s D' σ1 H1 :=
  ⟨g1, env1, W1, F1, hw, fun g' env' σ' H' F' s' => n g' env' σ' H' F' (s1.trans s'), fun g' env' σ' H' F' s' => b g' env' σ' H' F' (s1.trans s'), fun g' env' σ' H' F' s' => c g' env' σ' H' F' (s1.trans s'),
    fun g' env' σ' H' v d F' s' rr => r g' env' σ' H' v d F' (s1.trans s') (rr.back s1)⟩
theorem sss_nil : SSs X κ M k [] wNil := SSs.of pss_nil fun D σ H ⟨g, env, W, F, hw, n, _⟩ => n g env σ H F (.refl F) hw
theorem sss_cons (h1 : SS X κ M k st s) (h2 : SSs X κ M k sts t) : SSs X κ M k (st :: sts) (wSeq s t) :=
  SSs.of (pss_cons h1 h2) fun D σ H ⟨g, env, W, F, hw, n, b, c, r⟩ => ⟨g, env, _, F, hw, fun g' env' σ' H' F' s' w' => cS.go (K := X.K) (g := g) (H := H) (W1 := W) (D' := D) F' s' w' n b c r, b, c, r⟩
theorem sss_one (h1 : SS X κ M k st s) : SSs X κ M k [st] s := SSs.of (pss_one h1) fun _ _ _ q => q
theorem ss_if {c : Expr} {a b : List Stmt} {wt : WT} (hc : ST X κ Me c wt) (ha : SSs X κ M k a s) (hb : SSs X κ M k b t) (sub : ∀ i ∈ Me, i ∈ M := by decide) : SS X κ M k (.If c a b pos) (wIf wt s t) :=
  SS.of (ps_if hc ha hb) fun D σ H ⟨g, env, W, F, hw, n, b, c, r⟩ => ⟨g, env, _, F, hw, fun x H1 g1 e1 F1 s1 w1 => by
    have s1' := (s1.mono sub).toS F F1
    cases x with
    | true => exact cS.go (K := X.K) (g := g) (H := H) (W1 := W) (D' := D) F1 s1' w1 n b c r
    | false => exact cS.go (K := X.K) (g := g) (H := H) (W1 := W) (D' := D) F1 s1' w1 n b c r⟩
theorem ss_expr (he : SE X κ Me ke e w) (hs : swapsWith e none pos.line X.env = pure false := by rfl) (sub : ∀ i ∈ Me, i ∈ M := by decide) : SS X κ M k (.Expr e pos) (wExpr w) :=
  SS.of (ps_expr he hs) fun D σ H ⟨g, env, W, F, hw, n, b, c, r⟩ => ⟨g, env, _, F, hw, fun v H1 g1 e1 d F1 s1 _ w1 => n g1 e1 σ H1 F1 ((s1.mono sub).toS F F1) w1⟩
theorem ss_ret (he : SE X κ Me .fz e w) (sub : ∀ i ∈ Me, i ∈ M := by decide) : SS X κ M .fz (.Return (some e) pos) (wRet w) :=
  SS.of (ps_ret he) fun D σ H ⟨g, env, W, F, hw, n, b, c, r⟩ => ⟨g, env, _, F, hw, fun v H1 g1 e1 d F1 s1 r1 w1 => by
    have s1' := (s1.mono sub).toS F F1
    refine r g1 e1 σ H1 v d F1 s1' ?_ w1
    exact Rep.keep (fun _ _ _ q => q) (fun a q => .inl (baseO_own (s1'.base a q))) r1⟩
theorem ss_retw (he : SE X κ Me .nw e w) (sub : ∀ i ∈ Me, i ∈ M := by decide) : SS X κ M .nw (.Return (some e) pos) (wRet w) :=
  SS.of (ps_ret he) fun D σ H ⟨g, env, W, F, hw, n, b, c, r⟩ => ⟨g, env, _, F, hw, fun v H1 g1 e1 d F1 s1 ⟨p, e, np, hO, hP, r1⟩ w1 => by
    have s1' := (s1.mono sub).toS F F1
    refine r g1 e1 σ H1 v d F1 s1' ⟨p, e, .inl np, r1.keep (fun _ q => q) (fun _ _ _ q => q) fun a q => .inl ?_⟩ w1
    rcases q with q | q
    · exact baseO_own (s1'.base a q)
    · subst q; exact .inl hO⟩
theorem ss_retof {i : Nat} (he : SE X κ Me (.ow i) e w) (hk : kindOf κ i = .o) (sub : ∀ i ∈ Me, i ∈ M := by decide) : SS X κ M .fz (.Return (some e) pos) (wRet w) :=
  SS.of (ps_ret he) fun D σ H ⟨g, env, W, F, hw, n, b, c, r⟩ => ⟨g, env, _, F, hw, fun v H1 g1 e1 d F1 s1 ⟨p, e, ea, r1⟩ w1 => by
    have s1' := (s1.mono sub).toS F F1
    subst e
    refine r g1 e1 σ H1 _ d F1 s1' ((r1.keep (S' := baseO κ g) (fun _ q => q) (fun _ _ _ q => q) fun a q => .inl (baseO_own (s1'.base a q))).rep fun q => ?_) w1
    rcases s1'.base p q with z | ⟨j, hj, z⟩
    · exact (F1.alo i p ea).1 z
    · have := F1.inj i j p ea z
      subst this
      rcases hj with hj | hj
      · rw [hk] at hj; cases hj
      · exact hj.2.1 hk⟩
theorem Frm.set {K : PySem.W.Frag} {g : Rg} {env : En} {σ : St} {H : Hp} (F : Frm K κ g env σ H) {i : Nat} {v : V} {d : D} (s : SlotK K g H (kindOf κ i) i v d) : Frm K κ g (env.set i (some d)) (σ.set i (some v)) H := by
  refine ⟨by simp [F.ln], by simp [F.sl], fun j d' e hs => ?_, fun j d' e hs => ?_, F.inj, F.alo', F.ot', F.il, F.pl⟩
  rotate_left 1
  · by_cases hj : i = j
    · subst hj
      rw [hs] at s
      exact s.elim
    · rw [List.getElem?_set_ne hj] at e
      exact F.gh j d' e hs
  by_cases hj : i = j
  · subst hj
    have hi : i < env.length := by
      apply Classical.byContradiction
      intro c
      rw [List.getElem?_eq_none (by simpa using c)] at e; cases e
    rw [List.getElem?_set_self hi] at e
    cases e
    exact ⟨v, by rw [List.getElem?_set_self (by rw [F.sl, ← F.ln]; exact hi)], s⟩
  · rw [List.getElem?_set_ne hj] at e
    obtain ⟨v', e1, s'⟩ := F.ev j d' e
    exact ⟨v', by rw [List.getElem?_set_ne hj]; exact e1, s'⟩
theorem ss_tAsg {i : Nat} (h : PS X st (tAsg (cE X.K κ Me .fz w) (gName i))) (hk : kindOf κ i = .v) (sub : ∀ i ∈ Me, i ∈ M) : SS X κ M k st (wAsg i w) :=
  SS.of h fun D σ H ⟨g, env, W, F, hw, n, b, c, r⟩ => ⟨g, env, _, F, hw, fun v H1 g1 e1 d F1 s1 r1 w1 =>
    n g1 _ _ H1 (F1.set (by rw [hk]; exact r1)) ((s1.mono sub).toS F F1) w1⟩
/-- a new thing becomes a slot's own -/
theorem Frm.take {K : PySem.W.Frag} {g g1 : Rg} {env env1 : En} {σ : St} {H H1 : Hp} {i : Nat} {p : Addr} {d : D} (F : Frm K κ g env σ H) (F1 : Frm K κ g1 env1 σ H1) (s : EStep Me g g1 H H1) (sub : ∀ i ∈ Me, i ∈ M) (hi : i ∈ M) (hk : kindOf κ i = .o ∨ kindOf κ i = .f) (n : H p = none) (hO : g1.O p) (hP : ¬ g1.P p) (r : Obj1 K H1 g1.own p d) :
    ∃ g', Frm K κ g' (env1.set i (some d)) (σ.set i (some (.ref p))) H1 ∧ SStep κ M g g' H H1 := by
  have s1 := (s.mono sub).toS F F1
  have npal : ∀ j, g1.al j ≠ some p := fun j e => (F1.alo j p e).1 hO
  have nO : ¬ g.O p := fun q => F.ot p q n
  have own : ∀ a, Rg.own ⟨g.O, g1.P, g1.I, fun j => if j = i then some p else g1.al j⟩ a → g1.own a := fun a q => by
    rcases q with q | ⟨j, q⟩
    · exact .inl (s.up a q)
    · simp only at q
      split at q
      · cases q; exact .inl hO
      · exact .inr ⟨j, q⟩
  refine ⟨⟨g.O, g1.P, g1.I, fun j => if j = i then some p else g1.al j⟩, ⟨by simp [F1.ln], by simp [F1.sl], fun j d' e hs => ?_, fun j d' e hs => ?_, fun j j' a e e' => ?_, fun j a e => ?_, fun a q => F1.ot' a (s.up a q), fun a q => F.il a (by rw [← s.I]; exact q), fun a q => ?_⟩, ⟨s1.pu, s1.pd, fun _ q => q, fun _ q => .inl q, fun j a e => ?_, s1.I, fun j q => ?_, s1.keep, s1.th, s1.pool, fun j a hj e => ?_⟩⟩
  rotate_left 1
  · have hji : i ≠ j := fun z => by subst z; rcases hk with hk | hk <;> rw [hk] at hs <;> cases hs
    rw [List.getElem?_set_ne hji] at e
    refine (F1.gh j d' e hs).keep rfl (fun k _ hv => ?_) (fun _ _ _ _ _ _ h => h) (fun _ _ _ h => h) fun a q => .inl (own a q)
    have : k ≠ i := fun z => by subst z; rcases hk with hk | hk <;> rw [hk] at hv <;> cases hv
    simp [this]
  rotate_right 1
  · by_cases hj : i = j
    · subst hj
      have hl : i < env1.length := by
        apply Classical.byContradiction
        intro c
        rw [List.getElem?_eq_none (by simpa using c)] at e; cases e
      rw [List.getElem?_set_self hl] at e
      cases e
      have so : ∃ a, V.ref p = .ref a ∧ (if i = i then some p else g1.al i) = some a ∧ Obj1 K H1 (Rg.own ⟨g.O, g1.P, g1.I, fun j => if j = i then some p else g1.al j⟩) a d := ⟨p, rfl, by simp, r.keep (fun _ q => q) (fun _ _ _ q => q) fun a q => .inl (own a q)⟩
      refine ⟨.ref p, by rw [List.getElem?_set_self (by rw [F1.sl, ← F1.ln]; exact hl)], ?_⟩
      rcases hk with hk | hk <;> rw [hk]
      · exact so
      · exact .inl so
    · rw [List.getElem?_set_ne hj] at e
      obtain ⟨v', e1, s'⟩ := F1.ev j d' e
      refine ⟨v', by rw [List.getElem?_set_ne hj]; exact e1, ?_⟩
      have hj' : j ≠ i := fun z => hj z.symm
      cases hkj : kindOf κ j <;> rw [hkj] at s' <;> unfold SlotK at s' ⊢ <;> simp only at s' ⊢
      · exact s'
      · exact Rep.keep (fun _ _ _ q => q) (fun a q => .inl (own a q)) s'
      · rcases s' with s' | ⟨a, rfl, np, na, s'⟩
        · exact .inl (Rep.keep (fun _ _ _ q => q) (fun a q => .inl (own a q)) s')
        · exact .inr ⟨a, rfl, np, na, s'.keep (fun _ q => q) (fun _ _ _ q => q) fun a q => .inl (own a q)⟩
      · obtain ⟨a, rfl, ea, s'⟩ := s'
        exact ⟨a, rfl, by simp [hj', ea], s'.keep (fun _ q => q) (fun _ _ _ q => q) fun a q => .inl (own a q)⟩
      · obtain ⟨a, rfl, ea, s'⟩ := s'
        exact ⟨a, rfl, by simp [hj', ea], s'.keep (fun _ q => q) (fun _ _ _ q => q) fun a q => .inl (own a q)⟩
      · obtain ⟨a, rfl, ea, s'⟩ := s'
        exact ⟨a, rfl, by simp [hj', ea], s'.keep (fun _ q => q) (fun _ _ _ q => q) fun a q => .inl (own a q)⟩
      · obtain ⟨a, rfl, s'⟩ := s'
        exact ⟨a, rfl, s'.keep (fun _ _ _ q => q) fun a q => .inl (own a q)⟩
      · exact s'
      · rcases s' with ⟨a, rfl, ea, s'⟩ | ⟨d', e', s'⟩
        · exact .inl ⟨a, rfl, by simp [hj', ea], s'.keep (fun _ q => q) (fun _ _ _ q => q) fun a q => .inl (own a q)⟩
        · exact .inr ⟨d', e', Rep.keep (fun _ _ _ q => q) (fun a q => .inl (own a q)) s'⟩
      · exact s'
      · exact HsAt.keep s' (fun _ _ _ q => q) (fun a q => .inl (own a q))
  · simp only at e e'
    split at e <;> split at e'
    · rename_i h1 h2; rw [h1, h2]
    · cases e; exact absurd e' (npal j')
    · cases e'; exact absurd e (npal j)
    · exact F1.inj j j' a e e'
  · simp only at e
    split at e
    · cases e; exact ⟨nO, r.tk⟩
    · obtain ⟨h1, h2⟩ := F1.alo' j a e
      exact ⟨fun q => h1 (s.up a q), h2⟩
  · rw [show g1.P a = g.P a from by rw [s.P]] at q
    exact ⟨(F.pl a q).1, (F1.pl a (by rw [s.P]; exact q)).2⟩
  · simp only at e
    split at e
    · cases e; exact .inr (.inr n)
    · rw [s.al] at e; exact .inl e
  · have hj : j ≠ i := fun z => by rcases hk with hk | hk <;> rw [z, hk] at q <;> exact absurd q (by decide)
    simp [hj, s.al]
  · have : j ≠ i := fun z => by subst z; rcases hk with hk | hk; exact hj.2.1 hk; exact hj.2.2 hk
    simp [this, s.al, e]
end
end G7

set_option maxRecDepth 100000
namespace G7
open PySem PySem.Spec PyProof.Rows L2

section
variable {X : Cx} {κ : List SK} {M Me : List Nat} {k ke : RK} {st : Stmt} {sts : List Stmt} {e : Expr} {w wa : WE} {s t : WS} {pos : Pos}
theorem ss_tAsgO {i : Nat} (h : PS X st (tAsg (cE X.K κ Me .nw w) (gName i))) (hk : kindOf κ i = .o) (hi : i ∈ M) (sub : ∀ i ∈ Me, i ∈ M) : SS X κ M k st (wAsg i w) :=
  SS.of h fun D σ H ⟨g, env, W, F, hw, n, b, c, r⟩ => ⟨g, env, _, F, hw, fun v H1 g1 e1 d F1 s1 ⟨p, e, np, hO, hP, r1⟩ w1 => by
    subst e
    obtain ⟨g2, F2, s2⟩ := Frm.take F F1 s1 sub hi (.inl hk) np hO hP r1
    exact n g2 _ _ H1 F2 s2 w1⟩
/-- a new list of three ints becomes a pool -/
def wAsgP (i : Nat) (a : WE) : WS := fun W e => a e fun d e1 => ∃ x y z : Int, d = .list [.int x, .int y, .int z] ∧ W.nx (e1.set i (some .none))
theorem ss_tAsgP {i : Nat} (h : PS X st (tAsg (cE X.K κ Me .nw w) (gName i))) (hk : kindOf κ i = .p) (sub : ∀ i ∈ Me, i ∈ M) : SS X κ M k st (wAsgP i w) :=
  SS.of h fun D σ H ⟨g, env, W, F, hw, n, b, c, r⟩ => ⟨g, env, _, F, hw, fun v H1 g1 e1 d F1 s1 ⟨p, e, np, hO, hP, r1⟩ ⟨x, y, z, ed, w1⟩ => by
    subst e ed
    have st1 := (s1.mono sub).toS F F1
    cases r1 with
    | lst e zl al =>
      cases al with | cons r1 al => cases al with | cons r2 al => cases al with | cons r3 al => cases al with | nil =>
      have pl : Pool H1 p := ⟨x, y, z, by rw [e, r1.toInt, r2.toInt, r3.toInt]⟩
      have F2 : Frm X.K κ { g1 with P := fun a => g1.P a ∨ a = p } e1 σ H1 := by
        refine ⟨F1.ln, F1.sl, fun j d' ej hs => ?_, fun j d' ej hs => (F1.gh j d' ej hs).keep rfl (fun _ _ _ => rfl) (fun _ _ _ _ _ _ h => h) (fun _ _ _ h => h) fun _ q => .inl q, F1.inj, F1.alo', F1.ot', F1.il, fun a q => ?_⟩
        · obtain ⟨v', e1, s'⟩ := F1.ev j d' ej
          refine ⟨v', e1, ?_⟩
          cases hkj : kindOf κ j <;> rw [hkj] at s' <;> unfold SlotK at s' ⊢ <;> simp only at s' ⊢
          · exact s'
          · exact s'
          · rcases s' with s' | ⟨a, rfl, np', na, s'⟩
            · exact .inl s'
            · refine .inr ⟨a, rfl, fun q => q.elim np' fun z => ?_, na, s'⟩
              subst z
              exact F.ot a (F.il a (by rw [← s1.I]; exact na)) np
          · exact s'
          · exact s'
          · exact s'
          · exact s'
          · obtain ⟨a, rfl, q, s'⟩ := s'; exact ⟨a, rfl, .inl q, s'⟩
          · exact s'
          · exact s'
          · exact s'
        · rcases q with q | q
          · exact F1.pl a q
          · subst q; exact ⟨hO, pl⟩
      refine n { g1 with P := fun a => g1.P a ∨ a = p } _ _ H1 (F2.set (by rw [hk]; exact ⟨p, rfl, .inr rfl, rfl⟩)) ⟨fun a q => .inl (st1.pu a q), fun a q => q.elim (st1.pd a) fun z => .inr (by rw [z]; exact np), st1.up, st1.dn, st1.al, st1.I, st1.qs, st1.keep, st1.th, st1.pool, st1.st⟩ w1⟩
def Off (ts : List Nat) (σ σ' : St) : Prop := σ'.length = σ.length ∧ ∀ j, j ∉ ts → σ'[j]? = σ[j]?
def isTupE : Expr → Bool
  | .Tuple _ _ _ => true
  | _ => false
/-- an item of a walk; under a written tuple it may be any tuple just laid -/
def RepI (K : PySem.W.Frag) (H : Hp) (S : Addr → Prop) (b : Bool) (v : V) (d : D) : Prop := Rep K H S v d ∨ (b = true ∧ ∃ T vs ds, v = .ref T ∧ d = .tuple ds ∧ Rd H T (.tup vs) ∧ RepAll K H S vs ds)
def cG (K : PySem.W.Frag) (κ : List SK) (ts : List Nat) (tb : Bool) (f : WG) : TG := fun v σ H Q => ∃ g env d env', Frm K κ g env σ H ∧ RepI K H g.own tb v d ∧ f d env = some env' ∧ ∀ σ', Frm K κ g env' σ' H → Off ts σ σ' → Q σ' H
def SG (X : Cx) (κ : List SK) (ts : List Nat) (e : Expr) (f : WG) : Prop := PG X e (cG X.K κ ts (isTupE e) f)
theorem SG.of {f : WG} {ts : List Nat} {t : TG} (h : PG X e t) (i : ∀ v σ H Q, cG X.K κ ts (isTupE e) f v σ H Q → t v σ H Q) : SG X κ ts e f := ⟨fun pins s σ H v u Q I r q => h.run pins s σ H v u Q I r (i v σ H Q q)⟩
theorem sg_name {i : Nat} {x : Str} (h : PG X (.Name x pos) (gName i)) (hk : kindOf κ i = .v) : SG X κ [i] (.Name x pos) (gN i) :=
  SG.of h fun v σ H Q ⟨g, env, d, env', F, r, e, q⟩ => by
    cases e
    have r : Rep X.K H g.own v d := r.elim id fun z => Bool.noConfusion z.1
    exact q _ (F.set (by rw [hk]; exact r)) ⟨by simp, fun j hj => by rw [List.getElem?_set_ne (fun z => hj (by simp [z]))]⟩
def cGs (K : PySem.W.Frag) (κ : List SK) (ts : List Nat) (fs : List WG) : TGs := fun vs σ H Q => ∃ g env ds env', Frm K κ g env σ H ∧ RepAll K H g.own vs ds ∧ gAll fs ds env = some env' ∧ ∀ σ', Frm K κ g env' σ' H → Off ts σ σ' → Q σ' H
def SGs (X : Cx) (κ : List SK) (ts : List Nat) (es : List Expr) (fs : List WG) : Prop := PGs X es (cGs X.K κ ts fs)
theorem SGs.of {es : List Expr} {ts : List Nat} {fs : List WG} {t : TGs} (h : PGs X es t) (i : ∀ v σ H Q, cGs X.K κ ts fs v σ H Q → t v σ H Q) : SGs X κ ts es fs := ⟨fun pins s σ H v u Q I r q => h.run pins s σ H v u Q I r (i v σ H Q q)⟩
theorem sgs_nil : SGs X κ [] [] [] := SGs.of pgs_nil fun vs σ H Q ⟨g, env, ds, env', F, r, e, q⟩ => by
  cases ds with
  | nil => cases r; simp [gAll] at e; subst e; exact ⟨rfl, q σ F ⟨rfl, fun _ _ => rfl⟩⟩
  | cons _ _ => simp [gAll] at e
theorem sgs_cons {es : List Expr} {ts us : List Nat} {f : WG} {fs : List WG} (h1 : SG X κ ts e f) (h2 : SGs X κ us es fs) (hs : (assignEach (e :: es) X.env).map (·.2) = assign e X.env :: (assignEach es X.env).map (·.2) := by rfl) : SGs X κ (ts ++ us) (e :: es) (f :: fs) :=
  SGs.of (pgs_cons h1 h2 hs) fun vs σ H Q ⟨g, env, ds, env', F, r, e, q⟩ => by
    cases ds with
    | nil => simp [gAll] at e
    | cons d ds =>
      cases r with
      | cons r rs =>
        simp only [gAll, Option.bind_eq_some_iff] at e
        obtain ⟨e1, h1, h2⟩ := e
        exact ⟨_, _, rfl, g, env, d, e1, F, .inl r, h1, fun σ' F' o => ⟨g, e1, ds, env', F', rs, h2, fun σ2 F2 o2 => q σ2 F2 ⟨o2.1.trans o.1, fun j hj => (o2.2 j fun z => hj (List.mem_append_right _ z)).trans (o.2 j fun z => hj (List.mem_append_left _ z))⟩⟩⟩
theorem sg_tup {es : List Expr} {ts : List Nat} {fs : List WG} {j : Nat} (hc : X.calm = true) (h : SGs X κ ts es fs) (hn : (assignEach es X.env).length = fs.length := by rfl) (hst : (assignEach es X.env).findIdx? (·.1) = none := by rfl) : SG X κ ts (.Tuple es j pos) (gT fs) :=
  SG.of (pg_tup hc h hn hst) fun v σ H Q ⟨g, env, d, env', F, r, e, q⟩ => by
    cases d with
    | tuple ds =>
      have r : ∃ a xs, v = .ref a ∧ SqT X.K H a xs ∧ RepAll X.K H g.own xs ds := by
        rcases r with r | ⟨_, T, vs, ds', ev, ed, q, al⟩
        · obtain ⟨a, xs, rfl, ta, z, al⟩ := r.toTup
          exact ⟨a, xs, rfl, sqT_of ta, al⟩
        · cases ed
          exact ⟨T, vs, ev, .inl q, al⟩
      obtain ⟨a, xs, rfl, ta, al⟩ := r
      refine ⟨a, xs, rfl, ta, ?_, g, env, ds, env', F, al, e, q⟩
      have : ∀ (fs : List WG) (ds : List D) (env : En), gAll fs ds env = some env' → ds.length = fs.length := by
        intro fs
        induction fs with
        | nil => intro ds env h; cases ds with
          | nil => rfl
          | cons _ _ => simp [gAll] at h
        | cons f fs ih => intro ds env h; cases ds with
          | nil => simp [gAll] at h
          | cons d ds =>
            simp only [gAll, Option.bind_eq_some_iff] at h
            obtain ⟨e1, _, h2⟩ := h
            simp [ih ds e1 h2]
      rw [al.length]
      exact this fs ds env e
    | _ => simp [gT] at e
theorem ss_set {i : Nat} {x : Str} {pos' : Pos} (hN : X.N.Nodup) (hi : X.N[i]? = some x) (hx : Loc X.env.scope x) (he : SE X κ Me .fz e w) (hk : kindOf κ i = .v) (hs : swapsWith e (some (.Name x pos')) pos.line X.env = pure false := by rfl) (sub : ∀ i ∈ Me, i ∈ M := by decide)
    (hf : X.fn x = true ∨ X.env.scope.names.lookup x = some .local := by first | exact .inl rfl | exact .inr rfl | assumption) : SS X κ M k (.Assign [.Name x pos'] e pos) (wAsg i w) := ss_tAsg (ps_set hN hi hx he hs hf) hk sub
theorem ss_setO {i : Nat} {x : Str} {pos' : Pos} (hN : X.N.Nodup) (hi : X.N[i]? = some x) (hx : Loc X.env.scope x) (he : SE X κ Me .nw e w) (hk : kindOf κ i = .o) (hs : swapsWith e (some (.Name x pos')) pos.line X.env = pure false := by rfl) (hm : i ∈ M := by decide) (sub : ∀ i ∈ Me, i ∈ M := by decide)
    (hf : X.fn x = true ∨ X.env.scope.names.lookup x = some .local := by first | exact .inl rfl | exact .inr rfl | assumption) : SS X κ M k (.Assign [.Name x pos'] e pos) (wAsg i w) := ss_tAsgO (ps_set hN hi hx he hs hf) hk hm sub
theorem ss_setP {i : Nat} {x : Str} {pos' : Pos} (hN : X.N.Nodup) (hi : X.N[i]? = some x) (hx : Loc X.env.scope x) (he : SE X κ Me .nw e w) (hk : kindOf κ i = .p) (hs : swapsWith e (some (.Name x pos')) pos.line X.env = pure false := by rfl) (sub : ∀ i ∈ Me, i ∈ M := by decide)
    (hf : X.fn x = true ∨ X.env.scope.names.lookup x = some .local := by first | exact .inl rfl | exact .inr rfl | assumption) : SS X κ M k (.Assign [.Name x pos'] e pos) (wAsgP i w) := ss_tAsgP (ps_set hN hi hx he hs hf) hk sub
/-- the thing of slot i is written anew -/
theorem Frm.put {K : PySem.W.Frag} {g : Rg} {env : En} {σ : St} {H : Hp} {i : Nat} {a : Addr} {d : D} {o : HO} (F : Frm K κ g env σ H) (hk : kindOf κ i = .o ∨ kindOf κ i = .q) (ea : g.al i = some a) (es : σ[i]? = some (some (.ref a))) (mt : ∀ xs, H a ≠ some (.tup xs))
    (r : Obj1 K (upd H a o) g.own a d) : Frm K κ g (env.set i (some d)) σ (upd H a o) := by
  have off : ∀ b x, ¬ g.own b → H b = some x → (upd H a o) b = some x := fun b x n e => by
    rw [upd_ne (fun z => n (by rw [z]; exact .inr ⟨i, ea⟩))]; exact e
  have nO := (F.alo i a ea).1
  have oth : ∀ b x, b ≠ a → H b = some x → (upd H a o) b = some x := fun b x n e => by rw [upd_ne n]; exact e
  have th : ∀ b, Tk H b → Tk (upd H a o) b := fun b n => by
    by_cases h : b = a
    · subst h; exact r.tk
    · exact n.of fun o e => by rw [upd_ne h]; exact e
  refine ⟨by simp [F.ln], F.sl, fun j d' e hs => ?_, fun j d' e hs => ?_, F.inj, fun j b e => ⟨(F.alo' j b e).1, th b (F.alo' j b e).2⟩, fun b q => th b (F.ot' b q), F.il, fun b q => ⟨(F.pl b q).1, ?_⟩⟩
  rotate_left 1
  · have hji : i ≠ j := fun z => by subst z; rcases hk with hk | hk <;> rw [hk] at hs <;> cases hs
    rw [List.getElem?_set_ne hji] at e
    refine (F.gh j d' e hs).keep rfl (fun _ _ _ => rfl) (fun k b x _ hv h q => oth b x (fun z => ?_) q) off fun _ q => .inl q
    have : k = i := F.inj k i a (by rw [← z]; exact h) ea
    subst this
    rcases hk with hk | hk <;> rw [hk] at hv <;> cases hv
  rotate_right 1
  · by_cases hj : i = j
    · subst hj
      have hi : i < env.length := by
        apply Classical.byContradiction
        intro c
        rw [List.getElem?_eq_none (by simpa using c)] at e; cases e
      rw [List.getElem?_set_self hi] at e
      cases e
      refine ⟨.ref a, es, ?_⟩
      rcases hk with hk | hk <;> rw [hk] <;> exact ⟨a, rfl, ea, r⟩
    · rw [List.getElem?_set_ne hj] at e
      obtain ⟨v, e1, s⟩ := F.ev j d' e
      refine ⟨v, e1, ?_⟩
      have own : ∀ b, g.own b → g.own b ∨ H b = none := fun _ q => .inl q
      have nal : ∀ b, g.al j = some b → b ≠ a := fun b e z => hj (F.inj i j a ea (by rw [← z]; exact e))
      cases hkj : kindOf κ j <;> rw [hkj] at s <;> unfold SlotK at s ⊢ <;> simp only at s ⊢
      · exact s
      · exact Rep.keep off own s
      · rcases s with s | ⟨b, rfl, np, na, s⟩
        · exact .inl (Rep.keep off own s)
        · exact .inr ⟨b, rfl, np, na, s.keep (fun x q => oth b x (fun z => nO (by rw [← z]; exact F.il b na)) q) off own⟩
      · obtain ⟨b, rfl, eb, s⟩ := s
        exact ⟨b, rfl, eb, s.keep (fun x q => oth b x (nal b eb) q) off own⟩
      · obtain ⟨b, rfl, eb, s⟩ := s
        exact ⟨b, rfl, eb, s.keep (fun x q => oth b x (nal b eb) q) off own⟩
      · obtain ⟨b, rfl, eb, s⟩ := s
        exact ⟨b, rfl, eb, s.keep (fun x q => oth b x (nal b eb) q) off own⟩
      · obtain ⟨b, rfl, s⟩ := s
        exact ⟨b, rfl, s.keep off own⟩
      · exact s
      · rcases s with ⟨b, rfl, eb, s⟩ | ⟨d', e', s⟩
        · exact .inl ⟨b, rfl, eb, s.keep (fun x q => oth b x (nal b eb) q) off own⟩
        · exact .inr ⟨d', e', Rep.keep off own s⟩
      · exact s
      · exact HsAt.keep s off own
  · obtain ⟨x, y, z, e⟩ := (F.pl b q).2
    exact ⟨x, y, z, oth b _ (fun z => nO (by rw [← z]; exact (F.pl b q).1)) e⟩
theorem EStep.put {g : Rg} {K : PySem.W.Frag} {env : En} {σ : St} {H : Hp} {i : Nat} {a : Addr} {o : HO} (F : Frm K κ g env σ H) (ea : g.al i = some a) (hi : i ∈ M) : EStep M g g H (upd H a o) := by
  refine ⟨rfl, rfl, rfl, fun _ q => q, fun _ q => .inl q, fun b x e p q => by rw [upd_ne (fun z => q i hi (by rw [z]; exact ea))]; exact e, fun b p ⟨x, y, z, e⟩ => ⟨x, y, z, ?_⟩⟩
  rw [upd_ne (fun z => (F.alo i a ea).1 (by rw [← z]; exact (F.pl b p).1))]; exact e
/-- what a method of a list does, by values and over data; z is told for good -/
def MtD (K : PySem.W.Frag) (r : V → List V → Hp → VK → Prop) (f : List D → List D → Option (D × List D)) (ks : List RK) : Prop := ∀ (κ : List SK) (g : Rg) (env : En) (σ : St) (H0 H : Hp) (a : Addr) (xs : List V) (dxs ds dxs' : List D) (vs : List V) (z : D) (Q : VK),
  Frm K κ g env σ H → g.own a → H a = some (.lst xs) → xs.length ≤ sizeLine → RepAll K H g.own xs dxs → ResA K g H0 H ks vs ds → f dxs ds = some (z, dxs') →
  (∀ v xs', RepAll K H g.own xs' dxs' → xs'.length ≤ sizeLine → Rep K H g.own v z → Q v (upd H a (.lst xs'))) → r (.ref a) vs H Q
theorem mut_go {i : Nat} {Ma : List Nat} {ks : List RK} {wl : WA} {T : String} {r : V → List V → Hp → VK → Prop} {f : List D → List D → Option (D × List D)} (hf : MtD X.K r f ks) (hk : kindOf κ i = .o ∨ kindOf κ i = .q) (hi : i ∈ M) (subA : ∀ i ∈ Ma, i ∈ M) (hT : T = "list") (σ : St) (H : Hp) (Q : VK)
    (h : cE X.K κ M .fz (wMut i f wl) σ H Q) : tBM X.K T r (tVar i) (cA X.K κ Ma ks wl) σ H Q := by
  subst hT
  obtain ⟨g, env, W, F, hw, post⟩ := h
  unfold tBM tVar
  obtain ⟨⟨xs0, e0⟩, hw⟩ := hw
  obtain ⟨v0, sv, sl⟩ := F.ev i _ e0
  have sl' : ∃ a, v0 = .ref a ∧ g.al i = some a ∧ Obj1 X.K H g.own a (.list xs0) := by rcases hk with hk | hk <;> rw [hk] at sl <;> exact sl
  obtain ⟨a, rfl, ea, ob⟩ := sl'
  refine ⟨_, sv, ?_, g, env, _, F, hw, fun vs H1 g1 e1 ds F1 s1 r1 w1 => ?_⟩
  · cases ob with | lst q z al => exact .inl ⟨rfl, _, .inl (.inl q)⟩
  · obtain ⟨dxs, z, dxs', e2, ef, w1⟩ := w1
    obtain ⟨v1, sv1, sl1⟩ := F1.ev i _ e2
    rw [sv] at sv1; cases sv1
    have sl1' : ∃ a', V.ref a = .ref a' ∧ g1.al i = some a' ∧ Obj1 X.K H1 g1.own a' (.list dxs) := by rcases hk with hk | hk <;> rw [hk] at sl1 <;> exact sl1
    obtain ⟨a', ee, ea1, ob1⟩ := sl1'
    cases ee
    cases ob1 with
    | lst q zl al =>
      refine hf κ g1 e1 σ H H1 a _ dxs ds dxs' vs z Q F1 (.inr ⟨i, ea1⟩) q zl al r1 ef fun v xs' al' zl' rz => ?_
      have off : ∀ b x, ¬ g1.own b → H1 b = some x → (upd H1 a (.lst xs')) b = some x := fun b x n e => by
        rw [upd_ne (fun z => n (by rw [z]; exact .inr ⟨i, ea1⟩))]; exact e
      exact post v _ g1 _ z (F1.put hk ea1 sv (fun ys z => by rw [q] at z; cases z) (.lst upd_same zl' (al'.keep off fun _ q => .inl q))) ((s1.mono subA).tr (.put F1 ea1 hi) F F1) (Rep.keep off (fun _ q => .inl q) rz) w1
theorem se_mut {i : Nat} {Ma : List Nat} {x name : Str} {id : String} {ks : List RK} {wl : WA} {r : V → List V → Hp → VK → Prop} {f : List D → List D → Option (D × List D)} {px apos cpos : Pos} {es : List Expr} (slot : Slot "list" name id) (hty : typeOf (.builtin id) = pure (.type "method_descriptor")) (hm : MtR X id r) (hf : MtD X.K r f ks)
    (ho : PE X (.Name x px) (tVar i)) (ha : SA X κ Ma ks (e :: es) wl) (hk : kindOf κ i = .o ∨ kindOf κ i = .q) (hi : i ∈ M := by decide) (subA : ∀ i ∈ Ma, i ∈ M := by decide) (hbase : attributeBase (.Name x px) name X.env (eval (.Name x px) X.env) = eval (.Name x px) X.env := by rfl)
    (hfew : ((backTo cpos (starEach (e :: es) X.env)).all (fun x => !x.1) && (backToKw cpos (keywordEach [] X.env)).all (fun x => x.1.isSome)
      && decide ((e :: es).length + ([] : List Keyword).length + (if ([] : List Keyword).isEmpty then 0 else 1) < 30)) = true := by rfl)
    (hline : (apos.endLine == cpos.line) = true := by rfl) (hs : starEach (e :: es) X.env = (false, eval e X.env) :: starEach es X.env := by rfl) (hplain : (backTo cpos (starEach es X.env)).any (·.1) = false := by rfl) :
    SE X κ M .fz (.Call (.Attribute (.Name x px) name apos) (e :: es) [] cpos) (wMut i f wl) :=
  SE.of (pe_bm PySem.F.plainAttrs_list slot hty hm ho ha hbase hfew hline hs hplain) (mut_go hf hk hi subA rfl)
/-- xs[i] = v, an own list -/
theorem ss_setix {i : Nat} {x : Str} {px spos : Pos} {ix : Expr} {kx : RK} {wx : WE} (ho : PE X (.Name x px) (tVar i)) (hv : SE X κ Me .fz e w) (hx : SE X κ Me kx ix wx) (hk : kindOf κ i = .o ∨ kindOf κ i = .q) (px' : kx.rdable = true := by rfl) (hi : i ∈ M := by decide) (sub : ∀ i ∈ Me, i ∈ M := by decide)
    (ha : ∀ v, assign (.Subscript (.Name x px) ix spos) X.env v = (do
      let ov ← holding [v] (eval (.Name x px) X.env)
      let iv ← holding [v, ov] (eval ix X.env)
      standAt spos
      holding [v, ov, iv] (setItem ov iv v)
      release [v, ov, iv] []) := by intro _; rfl) (hs : swapsWithSole [.Subscript (.Name x px) ix spos] e pos.line X.env = pure false := by rfl) (hw : swappedStores [.Subscript (.Name x px) ix spos] e X.env = pure none := by rfl)
    (h1 : (assignEach [.Subscript (.Name x px) ix spos] X.env).map (·.2) = [assign (.Subscript (.Name x px) ix spos) X.env] := by rfl) : SS X κ M k (.Assign [.Subscript (.Name x px) ix spos] e pos) (wSetIx i w wx) :=
  SS.of (ps_asg hv (pg_sub ho hx set_list ha) hs hw h1) fun D σ H ⟨g, env, W, F, hw, n, b, c, r⟩ => ⟨g, env, _, F, hw, fun v H1 g1 e1 d F1 s1 r1 ⟨⟨xs0, e0⟩, w1⟩ => by
    obtain ⟨v0, sv, sl⟩ := F1.ev i _ e0
    have sl' : ∃ a, v0 = .ref a ∧ g1.al i = some a ∧ Obj1 X.K H1 g1.own a (.list xs0) := by rcases hk with hk | hk <;> rw [hk] at sl <;> exact sl
    obtain ⟨a, rfl, ea, ob⟩ := sl'
    refine ⟨_, sv, g1, e1, _, F1, w1, fun y H2 g2 e2 d2 F2 s2 r2 ⟨kk, xs, m, ed, e3, em, w2⟩ => ?_⟩
    subst ed
    have ey : y = .int kk := by
      rcases r2.rdb px' with q | ⟨a, _, q⟩
      · exact q.toInt
      · cases q
    subst ey
    obtain ⟨v1, sv1, sl1⟩ := F2.ev i _ e3
    rw [sv] at sv1; cases sv1
    have sl1' : ∃ a', V.ref a = .ref a' ∧ g2.al i = some a' ∧ Obj1 X.K H2 g2.own a' (.list xs) := by rcases hk with hk | hk <;> rw [hk] at sl1 <;> exact sl1
    obtain ⟨a', ee, ea1, ob1⟩ := sl1'
    cases ee
    have rv : Rep X.K H2 g2.own v d := Res.step (k := .fz) (H0 := H) r1 s2 F1 rfl
    cases ob1 with
    | @lst ws _ q zl al =>
      refine ⟨a, _, kk, m, rfl, rfl, q, by rw [al.length]; exact em, ?_⟩
      have off : ∀ b x, ¬ g2.own b → H2 b = some x → (upd H2 a (.lst (List.set ws m v))) b = some x := fun b x n e => by
        rw [upd_ne (fun z => n (by rw [z]; exact .inr ⟨i, ea1⟩))]; exact e
      have F3 := F2.put (d := .list (xs.set m d)) (o := .lst (List.set ws m v)) hk ea1 sv (fun ys z => by rw [q] at z; cases z) (.lst upd_same (by simpa using zl) ((RepAll.set rv m al).keep off fun _ q => .inl q))
      have s12 := ((s1.tr s2 F F1).mono sub).tr (.put (o := .lst (List.set ws m v)) F2 ea1 hi) F F2
      exact n g2 _ σ _ F3 (s12.toS F F3) w2⟩
end
end G7

set_option maxRecDepth 100000
namespace G7
open PySem PySem.Spec PyProof.Rows L2

/-- the walk's items, as long as the sources L stand -/
structure Walk (K : PySem.W.Frag) (J : It) (tb : Bool) (xs : List D) (L : Rg → Hp → Prop) : Prop where
  go : ∀ g H i, L g H → (∀ a, g.own a → H a ≠ none) → i < xs.length → J.go i H
  yd : ∀ g H i v H', L g H → (∀ a, g.own a → H a ≠ none) → i < xs.length → J.yld i H v H' → (∀ b o, H b = some o → H' b = some o) ∧ ∃ x, xs[i]? = some x ∧ RepI K H' g.own tb v x
  stop : ∀ g H, L g H → J.stop xs.length H
  lenL : ∀ g H, L g H → xs.length ≤ sizeLine
def Holds (κ : List SK) (N : List Nat) (L : Rg → Hp → Prop) : Prop := ∀ (K : PySem.W.Frag) M g g' env env' σ σ' H H', (∀ i ∈ M, i ∉ N) → Frm K κ g env σ H → Frm K κ g' env' σ' H' → SStep κ M g g' H H' → L g H → L g' H'
def cI (K : PySem.W.Frag) (κ : List SK) (M N : List Nat) (tb : Bool) (w : WI) : TI := fun σ H R => ∃ g env W, Frm K κ g env σ H ∧ w env W ∧
  ∀ J H' g' env' xs L, Frm K κ g' env' σ H' → EStep M g g' H H' → L g' H' → Holds κ N L → Walk K J tb xs L → W xs env' → R J H'
def SI (X : Cx) (κ : List SK) (M N : List Nat) (tg iter : Expr) (w : WI) : Prop := PI X tg iter (cI X.K κ M N (isTupE tg) w)
theorem SI.of {X : Cx} {κ : List SK} {M N : List Nat} {tg iter : Expr} {w : WI} {t : TI} (h : PI X tg iter t) (i : ∀ σ H R, cI X.K κ M N (isTupE tg) w σ H R → t σ H R) : SI X κ M N tg iter w := ⟨fun pins s σ H R I q => h.run pins s σ H R I (i σ H R q)⟩

section
variable {X : Cx} {κ : List SK} {M Me Mt N : List Nat} {k : RK} {e tg iter : Expr} {w : WE} {s : WS} {wi : WI} {f : WG} {ts : List Nat} {pos : Pos}
theorem ss_for {body : List Stmt} (hp : PassesOwn (model X.prog X.w) X.A X.env X.xe) (hc : X.calm = true) (hi : SI X κ Me N tg iter wi) (hg : SG X κ ts tg f) (hb : SSs X κ M k body s) (dis : ∀ i ∈ M, i ∉ N := by decide) (sub : ∀ i ∈ Me, i ∈ M := by decide)
    (hs : ∀ x, foldedSetIterable iter X.env x = pure x := by intro _; rfl) : SS X κ M k (.For tg iter body [] pos) (wFor wi f s) :=
  SS.of (ps_for hp hc hi hg hb hs) fun D σ H ⟨g, env, W, F, hw, n, b, c, r⟩ => ⟨g, env, _, F, hw, fun J H1 g1 e1 xs L F1 s1 L1 hL wk w1 => by
    have s1' := (s1.mono sub).toS F F1
    refine ⟨fun i m σ' H' => m = xs.length - i ∧ i ≤ xs.length ∧ ∃ g' env', Frm X.K κ g' env' σ' H' ∧ SStep κ M g1 g' H1 H' ∧ forL f s W (xs.drop i) env', ⟨xs.length, by simp, Nat.zero_le _, g1, e1, F1, .refl F1, by simpa using w1⟩, ?_⟩
    rintro i m σ2 H2 ⟨rfl, hi2, g2, e2, F2, s2, w2⟩
    have L2 := hL X.K M g1 g2 e1 e2 σ σ2 H1 H2 dis F1 F2 s2 L1
    by_cases hlt : i < xs.length
    · refine .inr ⟨wk.go g2 H2 i L2 (fun a => F2.own_ne) hlt, fun σ' H' => i < xs.length ∧ ∃ g' env', Frm X.K κ g' env' σ' H' ∧ SStep κ M g1 g' H1 H' ∧ forL f s W (xs.drop (i + 1)) env', fun σ' H' q => ⟨xs.length - (i + 1), by omega, rfl, by omega, q.2⟩, fun v H3 y => ?_⟩
      obtain ⟨kp, x, ex, rx⟩ := wk.yd g2 H2 i v H3 L2 (fun a => F2.own_ne) hlt y
      have F3 : Frm X.K κ g2 e2 σ2 H3 := F2.same kp
      have s3 : SStep κ M g1 g2 H1 H3 := s2.trans ((EStep.same (M := M) (g := g2) kp).toS F2 F3)
      have ed : xs.drop i = x :: xs.drop (i + 1) := by
        rw [List.drop_eq_getElem_cons hlt]
        rw [List.getElem?_eq_getElem hlt] at ex
        cases ex; rfl
      rw [ed] at w2
      obtain ⟨e3, ee, w3⟩ := w2
      refine ⟨g2, e2, x, e3, F3, rx, ee, fun σ4 F4 _ => ?_⟩
      have s4 : SStep κ M g1 g2 H1 H3 := s3
      refine ⟨g2, e3, _, F4, w3, fun g' env' σ' H' F' s' q => ⟨hlt, g', env', F', s4.trans s', q⟩, fun g' env' σ' H' F' s' q => n g' env' σ' H' F' (s1'.trans (s4.trans s')) q, fun g' env' σ' H' F' s' q => ⟨hlt, g', env', F', s4.trans s', q⟩,
        fun g' env' σ' H' v d F' s' rr q => r g' env' σ' H' v d F' (s1'.trans (s4.trans s')) ((rr.back s4).back s1') q⟩
    · have e : i = xs.length := by omega
      subst e
      rw [List.drop_length] at w2
      exact .inl ⟨wk.stop g2 H2 L2, n g2 e2 σ2 H2 F2 (s1'.trans s2) w2⟩⟩
theorem wp_len (e : En) : ∀ vs : List Nat, (wp e vs).length = e.length
  | [] => rfl
  | v :: vs => by unfold wp; rw [List.length_set, wp_len e vs]
theorem back_len (e e2 : En) : ∀ vs : List Nat, (back e e2 vs).length = e2.length
  | [] => rfl
  | v :: vs => by unfold back; rw [List.length_set, back_len e e2 vs]
theorem wp_get {e : En} {i : Nat} {d : D} : ∀ {vs : List Nat}, (wp e vs)[i]? = some (some d) → e[i]? = some (some d) ∧ i ∉ vs
  | [], h => ⟨h, by simp⟩
  | v :: vs, h => by
    unfold wp at h
    by_cases hi : v = i
    · subst hi
      by_cases hv : v < (wp e vs).length
      · rw [List.getElem?_set_self hv] at h; cases h
      · rw [List.getElem?_eq_none (by simpa using hv)] at h; cases h
    · rw [List.getElem?_set_ne hi] at h
      obtain ⟨h1, h2⟩ := wp_get h
      exact ⟨h1, by simp only [List.mem_cons, not_or]; exact ⟨fun z => hi z.symm, h2⟩⟩
theorem back_get {e e2 : En} {i : Nat} {d : D} : ∀ {vs : List Nat}, (back e e2 vs)[i]? = some (some d) → (i ∈ vs ∧ e[i]? = some (some d)) ∨ (i ∉ vs ∧ e2[i]? = some (some d))
  | [], h => .inr ⟨by simp, h⟩
  | v :: vs, h => by
    unfold back at h
    by_cases hi : v = i
    · subst hi
      by_cases hv : v < (back e e2 vs).length
      · rw [List.getElem?_set_self hv] at h
        left
        refine ⟨by simp, ?_⟩
        have h' : (e[v]?).getD none = some d := Option.some.inj h
        cases q : e[v]? with
        | none => rw [q] at h'; cases h'
        | some x => rw [q] at h'; simp at h'; rw [h']
      · rw [List.getElem?_eq_none (by simpa using hv)] at h; cases h
    · rw [List.getElem?_set_ne hi] at h
      rcases back_get h with ⟨h1, h2⟩ | ⟨h1, h2⟩
      · exact .inl ⟨by simp [h1], h2⟩
      · exact .inr ⟨by simp only [List.mem_cons, not_or]; exact ⟨fun z => hi z.symm, h1⟩, h2⟩
theorem wipe_get {σ : St} {i : Nat} : ∀ {vs : List Nat}, i ∉ vs → (wipe σ vs)[i]? = σ[i]?
  | [], _ => rfl
  | v :: vs, h => by
    simp only [List.mem_cons, not_or] at h
    unfold wipe
    rw [List.getElem?_set_ne (fun z => h.1 z.symm)]
    exact wipe_get h.2
theorem Frm.wp {K : PySem.W.Frag} {g : Rg} {env : En} {σ : St} {H : Hp} (F : Frm K κ g env σ H) (vs : List Nat) : Frm K κ g (G7.wp env vs) (wipe σ vs) H :=
  ⟨by rw [wp_len]; exact F.ln, by rw [wipe_length]; exact F.sl, fun i d e hs => by
    obtain ⟨e1, n⟩ := wp_get e
    obtain ⟨v, e2, s⟩ := F.ev i d e1
    exact ⟨v, by rw [wipe_get n]; exact e2, s⟩, fun i d e hs => F.gh i d (wp_get e).1 hs, F.inj, F.alo', F.ot', F.il, F.pl⟩
theorem Frm.back {K : PySem.W.Frag} {g g1 : Rg} {e1 e2 : En} {σ : St} {H H1 : Hp} {vs : List Nat} (F1 : Frm K κ g1 e1 σ H1) (s : EStep M g1 g H1 H) (F : Frm K κ g e2 (wipe σ vs) H) (hv : ∀ i ∈ vs, kindOf κ i = .v) : Frm K κ g (G7.back e1 e2 vs) σ H :=
  ⟨by rw [back_len]; exact F.ln, F1.sl, fun i d e hs => by
    rcases back_get e with ⟨hi, e1⟩ | ⟨hi, e1⟩
    · obtain ⟨v, e2, sl⟩ := F1.ev i d e1
      rw [hv i hi] at sl ⊢
      exact ⟨v, e2, Rep.keep (s.off F1) s.own sl⟩
    · obtain ⟨v, e2, sl⟩ := F.ev i d e1
      rw [wipe_get hi] at e2
      exact ⟨v, e2, sl⟩, fun i d e hs => by
    rcases back_get e with ⟨hi, e1⟩ | ⟨hi, e1⟩
    · rw [hv i hi] at hs; cases hs
    · exact F.gh i d e1 hs, F.inj, F.alo', F.ot', F.il, F.pl⟩
theorem wipe_off {σ σ' : St} : ∀ {vs : List Nat}, Off vs (wipe σ vs) σ' → wipe σ' vs = wipe σ vs := fun {vs} ⟨hl, h⟩ => by
  apply List.ext_getElem?
  intro i
  by_cases hi : i ∈ vs
  · have z : ∀ (τ : St) (us : List Nat), i ∈ us → i < τ.length → (wipe τ us)[i]? = some none := by
      intro τ us
      induction us with
      | nil => intro h; simp at h
      | cons u us ih =>
        intro h hl
        unfold wipe
        by_cases hu : u = i
        · subst hu; rw [List.getElem?_set_self (by rw [wipe_length]; exact hl)]
        · rw [List.getElem?_set_ne hu]
          exact ih ((List.mem_cons.mp h).resolve_left fun z => hu z.symm) hl
    have hl' : σ'.length = σ.length := by rw [hl, wipe_length]
    by_cases hb : i < σ.length
    · rw [z σ' vs hi (by omega), z σ vs hi hb]
    · rw [List.getElem?_eq_none (by rw [wipe_length]; omega), List.getElem?_eq_none (by rw [wipe_length]; omega)]
  · rw [wipe_get hi, h i hi]
theorem Off.mono {ts us : List Nat} {σ σ' : St} (h : Off ts σ σ') (s : ∀ i ∈ ts, i ∈ us) : Off us σ σ' := ⟨h.1, fun j hj => h.2 j fun z => hj (s j z)⟩
theorem Frm.upd {K : PySem.W.Frag} {g : Rg} {env : En} {σ : St} {H : Hp} {a : Addr} {o : HO} (F : Frm K κ g env σ H) (hO : g.O a) (hP : ¬ g.P a) (hI : ¬ g.I a) (ht : ∀ xs, o ≠ .tup xs := by intro _ h; cases h) : Frm K κ g env σ (upd H a o) := by
  have off : ∀ b x, ¬ g.own b → H b = some x → (L2.upd H a o) b = some x := fun b x n e => by
    rw [upd_ne (fun z => n (by rw [z]; exact .inl hO))]; exact e
  have oth : ∀ b x, b ≠ a → H b = some x → (L2.upd H a o) b = some x := fun b x n e => by rw [upd_ne n]; exact e
  have th : ∀ b, Tk H b → Tk (L2.upd H a o) b := fun b n => by
    by_cases h : b = a
    · subst h; exact ⟨by rw [upd_same]; simp, fun xs z => by rw [upd_same] at z; exact ht xs (Option.some.inj z)⟩
    · exact n.of fun o e => by rw [upd_ne h]; exact e
  have own : ∀ b, g.own b → g.own b ∨ H b = none := fun _ q => .inl q
  refine ⟨F.ln, F.sl, fun j d' e hs => ?_, fun j d' e hs => (F.gh j d' e hs).keep rfl (fun _ _ _ => rfl) (fun k b x _ _ h q => oth b x (fun z => (F.alo k b h).1 (by rw [z]; exact hO)) q) off own, F.inj, fun j b e => ⟨(F.alo' j b e).1, th b (F.alo' j b e).2⟩, fun b q => th b (F.ot' b q), F.il, fun b q => ⟨(F.pl b q).1, ?_⟩⟩
  · obtain ⟨v, e1, s⟩ := F.ev j d' e
    refine ⟨v, e1, ?_⟩
    have nal : ∀ b, g.al j = some b → b ≠ a := fun b e z => (F.alo j b e).1 (by rw [z]; exact hO)
    cases hkj : kindOf κ j <;> rw [hkj] at s <;> unfold SlotK at s ⊢ <;> simp only at s ⊢
    · exact s
    · exact Rep.keep off own s
    · rcases s with s | ⟨b, rfl, np, na, s⟩
      · exact .inl (Rep.keep off own s)
      · exact .inr ⟨b, rfl, np, na, s.keep (fun x q => oth b x (fun z => hI (by rw [← z]; exact na)) q) off own⟩
    · obtain ⟨b, rfl, eb, s⟩ := s
      exact ⟨b, rfl, eb, s.keep (fun x q => oth b x (nal b eb) q) off own⟩
    · obtain ⟨b, rfl, eb, s⟩ := s
      exact ⟨b, rfl, eb, s.keep (fun x q => oth b x (nal b eb) q) off own⟩
    · obtain ⟨b, rfl, eb, s⟩ := s
      exact ⟨b, rfl, eb, s.keep (fun x q => oth b x (nal b eb) q) off own⟩
    · obtain ⟨b, rfl, s⟩ := s
      exact ⟨b, rfl, s.keep off own⟩
    · exact s
    · rcases s with ⟨b, rfl, eb, s⟩ | ⟨d', e', s⟩
      · exact .inl ⟨b, rfl, eb, s.keep (fun x q => oth b x (nal b eb) q) off own⟩
      · exact .inr ⟨d', e', Rep.keep off own s⟩
    · exact s
    · exact HsAt.keep s off own
  · obtain ⟨x, y, z, e⟩ := (F.pl b q).2
    exact ⟨x, y, z, oth b _ (fun z => hP (by rw [← z]; exact q)) e⟩
theorem comp_go {K : PySem.W.Frag} {tb : Bool} {vs : List Nat} {t : WT} (hv : ∀ i ∈ vs, kindOf κ i = .v) (hts : ∀ i ∈ ts, i ∈ vs) (dis : ∀ i ∈ M, i ∉ N) (σ : St) (H : Hp) (Q : VK)
    (h : cE K κ M .nw (wComp wi f vs t w) σ H Q) : tLc (cI K κ M N tb wi) (cG K κ ts tb f) (cT K κ M t) (cE K κ M .fz w) vs σ H Q := by
  obtain ⟨g, env, W, F, hw, post⟩ := h
  refine ⟨g, env, _, F, hw, fun J H1 g1 e1 xs L F1 s1 L1 hL wk w1 Da hD => ?_⟩
  have FD := F1.new (o := HO.lst []) hD
  have sD : EStep M g1 (g1.add Da) H1 (upd H1 Da (.lst [])) := .new hD
  have nDo : ¬ g1.own Da := fun q => F1.own_ne q hD
  refine ⟨fun i m H' => m = xs.length - i ∧ i ≤ xs.length ∧ ∃ g' env' acc das, Frm K κ g' env' (wipe σ vs) H' ∧ EStep M g1 g' H1 H' ∧ g'.O Da ∧ ¬ g'.P Da ∧ H' Da = some (.lst acc) ∧ acc.length ≤ i ∧ RepAll K H' g'.own acc das ∧
    compL f vs t w (fun acc e2 => W (.list acc) (G7.back e1 e2 vs)) (xs.drop i) das env', ⟨xs.length, by simp, Nat.zero_le _, g1.add Da, _, [], [], FD.wp vs, sD, .inr rfl, fun q => nDo (F1.p_own q), upd_same, Nat.le_refl _, .nil, by simpa using w1⟩, ?_⟩
  rintro i m H2 ⟨rfl, hi, g2, e2, acc, das, F2, s2, hO, hP, hA, hacc, ra, w2⟩
  have s2' : SStep κ M g1 g2 H1 H2 := s2.toS F1 F2
  have L2 := hL K M g1 g2 e1 e2 σ (wipe σ vs) H1 H2 dis F1 F2 s2' L1
  by_cases hlt : i < xs.length
  · refine .inr ⟨wk.go g2 H2 i L2 (fun a => F2.own_ne) hlt, fun H' => i < xs.length ∧ ∃ g' env' acc das, Frm K κ g' env' (wipe σ vs) H' ∧ EStep M g1 g' H1 H' ∧ g'.O Da ∧ ¬ g'.P Da ∧ H' Da = some (.lst acc) ∧ acc.length ≤ i + 1 ∧ RepAll K H' g'.own acc das ∧
      compL f vs t w (fun acc e2 => W (.list acc) (G7.back e1 e2 vs)) (xs.drop (i + 1)) das env', fun H' q => ⟨xs.length - (i + 1), by omega, rfl, by omega, q.2⟩, fun v H3 y => ?_⟩
    obtain ⟨kp, x, ex, rx⟩ := wk.yd g2 H2 i v H3 L2 (fun a => F2.own_ne) hlt y
    have F3 : Frm K κ g2 e2 (wipe σ vs) H3 := F2.same kp
    have s3 : EStep M g1 g2 H1 H3 := s2.tr (EStep.same kp) F1 F2
    have ed : xs.drop i = x :: xs.drop (i + 1) := by
      rw [List.drop_eq_getElem_cons hlt]
      rw [List.getElem?_eq_getElem hlt] at ex
      cases ex; rfl
    rw [ed] at w2
    obtain ⟨e3, ee, w3⟩ := w2
    refine ⟨g2, e2, x, e3, F3, rx, ee, fun σ4 F4 o4 => ⟨wipe_off (o4.mono hts), g2, e3, _, F4, w3, fun c H5 g5 e5 F5 s5 w5 => ?_⟩⟩
    have s15 : EStep M g1 g5 H1 H5 := s3.tr s5 F1 F3
    have hO5 := s5.up Da hO
    have hP5 : ¬ g5.P Da := by rw [s5.P]; exact hP
    have keepD : ∀ {Ha Hb : Hp} {ga gb : Rg} {ea : En} {σa : St}, Frm K κ ga ea σa Ha → EStep M ga gb Ha Hb → ga.O Da → ¬ ga.P Da → ∀ o, Ha Da = some o → Hb Da = some o := fun {Ha Hb ga gb ea σa} Fa sa ho hp o e => sa.keep Da o e hp fun j _ z => (Fa.alo j Da z).1 ho
    have hA5 : H5 Da = some (.lst acc) := keepD F3 s5 hO hP _ (kp _ _ hA)
    have ra5 : RepAll K H5 g5.own acc das := (ra.keep (fun a o _ e => kp a o e) fun _ q => .inl q).keep (s5.off F3) s5.own
    have ew : wipe σ4 vs = wipe σ vs := wipe_off (o4.mono hts)
    cases c with
    | false =>
      refine ⟨hlt, g5, _, acc, das, ?_, s15, hO5, hP5, hA5, by omega, ra5, w5⟩
      rw [← ew]; exact F5.wp vs
    | true =>
      refine ⟨g5, e5, _, F5, w5, fun u H6 g6 e6 d6 F6 s6 r6 w6 => ?_⟩
      have hO6 := s6.up Da hO5
      have hP6 : ¬ g6.P Da := by rw [s6.P]; exact hP5
      have hA6 : H6 Da = some (.lst acc) := keepD F5 s6 hO5 hP5 _ hA5
      have ra6 : RepAll K H6 g6.own acc das := ra5.keep (s6.off F5) s6.own
      have zx : xs.length ≤ sizeLine := wk.lenL g2 H2 L2
      refine ⟨acc, hA6, by omega, ?_⟩
      have nI : ¬ g6.I Da := fun z => by
        have z' : g1.I Da := by rw [← (s15.tr s6 F1 F5).I]; exact z
        exact F1.ot Da (F1.il Da z') hD
      have s16 := s15.tr s6 F1 F5
      have F7 : Frm K κ g6 (G7.wp e6 vs) (wipe σ vs) (upd H6 Da (.lst (acc ++ [u]))) := by
        rw [← ew]
        exact (F6.upd hO6 hP6 nI).wp vs
      have off : ∀ a o, ¬ g6.own a → H6 a = some o → (upd H6 Da (.lst (acc ++ [u]))) a = some o := fun a o n e => by rw [upd_ne (fun z => n (by rw [z]; exact .inl hO6))]; exact e
      refine ⟨hlt, g6, _, acc ++ [u], das ++ [d6], F7, ⟨s16.al, s16.P, s16.I, s16.up, s16.dn, fun b o e p q => ?_, fun b p q => ?_⟩, hO6, hP6, upd_same, by simp; omega, (ra6.append (.cons r6 .nil)).keep off fun _ q => .inl q, w6⟩
      · rw [upd_ne (ne_of_none e hD)]; exact s16.keep b o e p q
      · obtain ⟨x, y, z, e⟩ := s16.pool b p q
        exact ⟨x, y, z, by rw [upd_ne (fun z => hP6 (by rw [s16.P, ← z]; exact p))]; exact e⟩
  · have e : i = xs.length := by omega
    subst e
    rw [List.drop_length] at w2
    refine .inl ⟨wk.stop g2 H2 L2, ?_⟩
    have F5 := F1.back s2 F2 hv
    refine post (.ref Da) H2 g2 _ (.list das) F5 (s1.tr s2 F F1) ⟨Da, rfl, s1.there F F1 hD, hO, hP, .lst hA ?_ ra⟩ w2
    exact Nat.le_trans hacc (wk.lenL g2 H2 L2)
end
end G7

set_option maxRecDepth 100000
namespace G7
open PySem PySem.Spec PyProof.Rows L2

section
variable {K : PySem.W.Frag} {κ : List SK} {g : Rg} {env : En} {σ : St} {H : Hp} {S : Addr → Prop} {v : V} {p : Addr} {vs : List V} {ds : List D} {Q : VK}
theorem RdB.toInt {i : Int} (r : RdB K H S v (.int i)) : v = .int i := r.elim Rep.toInt fun ⟨_, _, q⟩ => by cases q
theorem RdB.toBl {i : Bool} (r : RdB K H S v (.bool i)) : v = .bl i := r.elim Rep.toBl fun ⟨_, _, q⟩ => by cases q
theorem RdB.toStr {i : Str} (r : RdB K H S v (.str i)) : v = .str i := r.elim Rep.toStr fun ⟨_, _, q⟩ => by cases q
theorem RdB.toLst (r : RdB K H S v (.list ds)) : ∃ a xs, v = .ref a ∧ Rd H a (.lst xs) ∧ xs.length ≤ sizeLine ∧ RepAll K H S xs ds := by
  rcases r with r | ⟨a, e, r⟩
  · cases r with | lst n q z al => exact ⟨_, _, rfl, .inl q, z, al⟩
  · cases r with | lst q z al => exact ⟨_, _, e, q, z, al⟩
theorem RdB.toTup (r : RdB K H S v (.tuple ds)) : ∃ a xs, v = .ref a ∧ ((¬ S a ∧ Rd H a (.tup xs)) ∨ KTup K a xs) ∧ xs.length ≤ sizeLine ∧ RepAll K H S xs ds := by
  rcases r with r | ⟨a, e, r⟩
  · exact r.toTup
  · cases r
theorem RdB.xtRep (r : RdB K H S v (xtD ds)) : Rep K H S v (xtD ds) := by
  rcases r with r | ⟨a, e, r⟩
  · exact r
  · exact r.noXt.elim
theorem RdB.toTupO {d : D} (h : tupOf d = some ds) (r : RdB K H S v d) : ∃ a xs, v = .ref a ∧ ((¬ S a ∧ Rd H a (.tup xs)) ∨ KTup K a xs) ∧ xs.length ≤ sizeLine ∧ RepAll K H S xs ds := by
  rcases tupOf_cases h with rfl | rfl
  · exact r.toTup
  · exact Rep.toTupO (d := xtD ds) rfl r.xtRep
theorem RdB.tupRep (r : RdB K H S v (.tuple ds)) : Rep K H S v (.tuple ds) := by
  rcases r with r | ⟨a, e, r⟩
  · exact r
  · cases r
theorem ok_lst (F : Frm K κ g env σ H) (al : RepAll K H g.own vs ds) (z : vs.length ≤ sizeLine) (np : H p = none) (h : ∀ v H' g', Frm K κ g' env σ H' → EStep [] g g' H H' → Res K g' .fz H H' v (.list ds) → Q v H') : Q (.ref p) (upd H p (.lst vs)) :=
  h _ _ g (F.new0 np) (.new0 np) (.lst (fun q => F.own_ne q np) upd_same z (al.keep (fun a o _ e => same_new np a o e) fun _ q => .inl q))
theorem ok_lstN (F : Frm K κ g env σ H) (al : RepAll K H g.own vs ds) (z : vs.length ≤ sizeLine) (np : H p = none) (h : ∀ v H' g', Frm K κ g' env σ H' → EStep [] g g' H H' → Res K g' .nw H H' v (.list ds) → Q v H') : Q (.ref p) (upd H p (.lst vs)) :=
  h _ _ (g.add p) (F.new np) (.new np) ⟨p, rfl, np, .inr rfl, fun q => F.own_ne (F.p_own q) np, .lst upd_same z (al.keep (fun a o _ e => same_new np a o e) fun a q => (Rg.add_own.mp q).imp id fun e => by rw [e]; exact np)⟩
theorem ok_tup (F : Frm K κ g env σ H) (al : RepAll K H g.own vs ds) (z : vs.length ≤ sizeLine) (np : H p = none) {o : HO} (m : MkT o vs) (h : ∀ v H' g', Frm K κ g' env σ H' → EStep [] g g' H H' → Res K g' .fz H H' v (.tuple ds) → Q v H') : Q (.ref p) (upd H p o) :=
  h _ _ g (F.new0 np) (.new0 np) (.tup (fun q => F.own_ne q np) (m.rdT al.length upd_same) z (al.keep (fun a o _ e => same_new np a o e) fun _ q => .inl q))
theorem ok_same {d : D} (F : Frm K κ g env σ H) (r : Rep K H g.own v d) (h : ∀ v H' g', Frm K κ g' env σ H' → EStep [] g g' H H' → Res K g' .fz H H' v d → Q v H') : Q v H := h v H g F .refl r
end
mutual
theorem Rep.dp {K : PySem.W.Frag} {H : Hp} {S : Addr → Prop} : ∀ {d : D} {v : V}, Rep K H S v d → d.canLay0 = true → Dp K H v d
  | _, _, .non, _ => .non
  | _, _, .bl b, _ => .bl b
  | _, _, .int i, _ => .int i
  | _, _, .str x, _ => .str x
  | _, _, .lst n r z al, h => .lst (.inl (.inl r)) (al.dp (by simpa [PyData.canLay0] using h))
  | _, _, .tup n r z al, h => .tup (sqT_of (.inl ⟨n, rdT_rd r⟩)) (al.dp (by simpa [PyData.canLay0] using h))
  | _, _, .dK n r al, h => by simp [PyData.canLay0] at h
  | _, _, .dT n r al, h => by simp [PyData.canLay0] at h
  | _, _, .xt n r e z al, h => by simp [PyData.canLay0] at h
theorem RepAll.dp {K : PySem.W.Frag} {H : Hp} {S : Addr → Prop} : ∀ {ds : List D} {vs : List V}, RepAll K H S vs ds → PyData.canLayAll0 ds = true → DpAll K H vs ds
  | _, _, .nil, _ => .nil
  | _, _, .cons r t, h => by
    simp only [PyData.canLayAll0, Bool.and_eq_true] at h
    exact .cons (r.dp h.1) (t.dp h.2)
end
theorem RdB.dp {K : PySem.W.Frag} {H : Hp} {S : Addr → Prop} {v : V} {d : D} (r : RdB K H S v d) (h : okD d = true) : Dp K H v d := by
  have hc : d.canLay0 = true := SeqAt.canLay_of_shaped h
  rcases r with r | ⟨a, rfl, r⟩
  · exact r.dp hc
  · cases r with
    | lst q z al => exact .lst (.inl q) (al.dp (by simpa [PyData.canLay0] using hc))
    | dK q al => simp [PyData.canLay0] at hc
    | dT q al => simp [PyData.canLay0] at hc
section
variable {X : Cx}
/-- + of lists that may be read -/
def rCatR : R2 := fun x y H Q => ∃ l b xs zs, x = .ref l ∧ y = .ref b ∧ Rd H l (.lst xs) ∧ Rd H b (.lst zs) ∧ xs.length + zs.length ≤ sizeLine ∧ ∀ p, H p = none → Q (.ref p) (upd H p (.lst (xs ++ zs)))
theorem op_catR : OpR X (binaryOp .Add) rCatR := by
  intro pins s σ H x y v u Q I rx ry h
  obtain ⟨l, b, xs, zs, rfl, rfl, hH, hB, hz, q⟩ := h
  cases rx
  cases ry
  obtain ⟨z, its, n, r, e⟩ := hH.ok I.hok
  obtain ⟨z2, its2, n2, r2, e2⟩ := hB.ok I.hok
  have h1 := r.length
  have h2 := r2.length
  refine PySem.P.add_list e e2 ?_ (by rw [List.size_toArray, List.size_toArray]; omega)
  have ea : its.toArray ++ its2.toArray = (its ++ its2).toArray := by simp
  rw [ea]
  exact ⟨.ref _, _, I.lnew (t' := s.toks) (r.append r2) (by rw [List.length_append]; omega), rfl, q _ I.fresh⟩
/-- t + u, as it is laid -/
def rCatM (K : PySem.W.Frag) : R2 := fun x y H Q => ∃ a b xs ys, x = .ref a ∧ y = .ref b ∧ SqT K H a xs ∧ SqT K H b ys ∧ xs.length + ys.length ≤ sizeLine ∧
  (xs = [] → Q (.ref b) H) ∧ (xs ≠ [] → ys = [] → Q (.ref a) H) ∧ (xs ≠ [] → ys ≠ [] → ∀ p o, H p = none → MkT o (xs ++ ys) → Q (.ref p) (upd H p o))
theorem op_catM : OpR X (binaryOp .Add) (rCatM X.K) := by
  intro pins s σ H x y v u Q I rx ry h
  obtain ⟨a, b, xs, ys, rfl, rfl, ha, hb, hz, q0, q1, q2⟩ := h
  by_cases hx : xs = []
  · subst hx
    exact op_catA pins s σ H _ _ v u Q I rx ry ⟨a, b, [], ys, rfl, rfl, ha, hb, hz, q0, fun c => absurd rfl c, fun c => absurd rfl c⟩
  · cases rx; cases ry
    obtain ⟨its, ra, pa, _⟩ := I.tuple ha
    obtain ⟨jts, rb, pb, _⟩ := I.tuple hb
    refine HT.cat_tup pa pb (fun c => hx (ra.nil_iff.mp c)) (fun c => ⟨.ref a, H, I, rfl, q1 hx (rb.nil_iff.mp c)⟩) (fun c => ?_) (by rw [← ra.length, ← rb.length]; exact hz)
    obtain ⟨o, m, J⟩ := mk_laid I (ra.append rb) (by rw [List.length_append]; exact hz) rfl
    exact ⟨.ref s.heap.objs.size, _, J, rfl, q2 hx (fun e => c (rb.nil_iff.mpr e)) _ o (I.hok.fresh (Nat.le_refl _)) m⟩
def rAddF (K : PySem.W.Frag) : R2 := fun x y H Q => rI0 (fun i j => .int (i + j)) x y H Q ∨ rCatR x y H Q ∨ rCatM K x y H Q
theorem op_addF : OpR X (binaryOp .Add) (rAddF X.K) := op_add.or (op_catR.or op_catM)
theorem od_add {K : PySem.W.Frag} : OpD K (rAddF K) addD .fz := by
  intro κ g env σ H x y dx dy dz Q F rx ry e h
  cases dx <;> cases dy <;> simp only [addD] at e <;> first
    | (cases e; rw [rx.toInt, ry.toInt]; exact .inl ⟨_, _, rfl, rfl, ok_same F (.int _) h⟩)
    | (split at e
       · rename_i hl
         cases e
         first
           | (obtain ⟨a, xs, rfl, ra, za, la⟩ := rx.toLst
              obtain ⟨b, ys, rfl, rb, zb, lb⟩ := ry.toLst
              have hz : xs.length + ys.length ≤ sizeLine := by rw [la.length, lb.length]; exact lim_line hl
              exact .inr (.inl ⟨a, b, xs, ys, rfl, rfl, ra, rb, hz, fun p np => ok_lst F (la.append lb) (by rw [List.length_append]; exact hz) np h⟩))
           | (have ta := rx.tupRep
              have tb := ry.tupRep
              obtain ⟨a, xs, rfl, ra, za, la⟩ := rx.toTup
              obtain ⟨b, ys, rfl, rb, zb, lb⟩ := ry.toTup
              have hz : xs.length + ys.length ≤ sizeLine := by rw [la.length, lb.length]; exact lim_line hl
              refine .inr (.inr ⟨a, b, xs, ys, rfl, rfl, sqT_of ra, sqT_of rb, hz, fun ex => ?_, fun _ ey => ?_, fun _ _ p o np m => ok_tup F (la.append lb) (by rw [List.length_append]; exact hz) np m h⟩)
              · subst ex; cases la; exact ok_same F tb h
              · subst ey; cases lb; simp only [List.append_nil] at h; exact ok_same F ta h)
       · cases e)
    | cases e
def addLD : D → D → Option D
  | .list a, .list b => if a.length + b.length ≤ lim then some (.list (a ++ b)) else none
  | _, _ => none
theorem od_addL {K : PySem.W.Frag} : OpD K rCatR addLD .nw := by
  intro κ g env σ H x y dx dy dz Q F rx ry e h
  cases dx <;> cases dy <;> simp only [addLD] at e <;> first
    | (split at e
       · rename_i hl
         cases e
         obtain ⟨a, xs, rfl, ra, za, la⟩ := rx.toLst
         obtain ⟨b, ys, rfl, rb, zb, lb⟩ := ry.toLst
         have hz : xs.length + ys.length ≤ sizeLine := by rw [la.length, lb.length]; exact lim_line hl
         exact ⟨a, b, xs, ys, rfl, rfl, ra, rb, hz, fun p np => ok_lstN F (la.append lb) (by rw [List.length_append]; exact hz) np h⟩
       · cases e)
    | cases e
theorem od_sub {K : PySem.W.Frag} : OpD K (rI0 fun i j => .int (i - j)) subD .fz := by
  intro κ g env σ H x y dx dy dz Q F rx ry e h
  cases dx <;> cases dy <;> simp only [subD] at e <;> first
    | (cases e; rw [rx.toInt, ry.toInt]; exact ⟨_, _, rfl, rfl, ok_same F (.int _) h⟩)
    | cases e
theorem od_fdiv {K : PySem.W.Frag} : OpD K (rI CDiv fun i j => .int (i / j)) fdivD .fz := by
  intro κ g env σ H x y dx dy dz Q F rx ry e h
  cases dx <;> cases dy <;> simp only [fdivD] at e <;> first
    | (split at e
       · rename_i hm
         cases e; rw [rx.toInt, ry.toInt]; exact ⟨_, _, rfl, rfl, hm, ok_same F (.int _) h⟩
       · cases e)
    | cases e
theorem od_mod {K : PySem.W.Frag} : OpD K (rI (fun _ j => 0 < j) fun i j => .int (i % j)) modD .fz := by
  intro κ g env σ H x y dx dy dz Q F rx ry e h
  cases dx <;> cases dy <;> simp only [modD] at e <;> first
    | (split at e
       · rename_i hm
         cases e; rw [rx.toInt, ry.toInt]; exact ⟨_, _, rfl, rfl, hm, ok_same F (.int _) h⟩
       · cases e)
    | cases e
theorem od_pow {K : PySem.W.Frag} : OpD K (rI CPow fun i j => .int (i ^ j.toNat)) powD .fz := by
  intro κ g env σ H x y dx dy dz Q F rx ry e h
  cases dx <;> cases dy <;> simp only [powD] at e <;> first
    | (split at e
       · rename_i hm
         cases e; rw [rx.toInt, ry.toInt]; exact ⟨_, _, rfl, rfl, hm, ok_same F (.int _) h⟩
       · cases e)
    | cases e
theorem o1_neg {K : PySem.W.Frag} : Op1 K (rU fun i => .int (-i)) negD .fz := by
  intro κ g env σ H x dx dz Q F rx e h
  cases dx <;> simp only [negD] at e <;> first
    | (cases e; rw [rx.toInt]; exact ⟨_, rfl, ok_same F (.int _) h⟩)
    | cases e
theorem od_icmp {K : PySem.W.Frag} (p : Int → Int → Bool) : OpD K (rI0 fun i j => .bl (p i j)) (icmp p) .fz := by
  intro κ g env σ H x y dx dy dz Q F rx ry e h
  cases dx <;> cases dy <;> simp only [icmp] at e <;> first
    | (cases e; rw [rx.toInt, ry.toInt]; exact ⟨_, _, rfl, rfl, ok_same F (.bl _) h⟩)
    | cases e
theorem od_le {K : PySem.W.Frag} : OpD K (rI0 fun i j => .bl (decide (i ≤ j))) leD .fz := od_icmp _
theorem od_gt {K : PySem.W.Frag} : OpD K (rI0 fun i j => .bl (decide (j < i))) gtD .fz := od_icmp _
theorem ints_of {K : PySem.W.Frag} {H : Hp} {S : Addr → Prop} : ∀ {ds : List D} {vs : List V} {ns : List Int}, RepAll K H S vs ds → intsD ds = some ns → vs = ns.map V.int
  | [], _, _, .nil, e => by simp [intsD] at e; subst e; rfl
  | .int i :: ds, _, ns, .cons r t, e => by
    simp only [intsD, Option.map_eq_some_iff] at e
    obtain ⟨ms, e, rfl⟩ := e
    rw [r.toInt, ints_of t e]; rfl
  | .none :: _, _, _, .cons _ _, e => by simp [intsD] at e
  | .bool _ :: _, _, _, .cons _ _, e => by simp [intsD] at e
  | .str _ :: _, _, _, .cons _ _, e => by simp [intsD] at e
  | .list _ :: _, _, _, .cons _ _, e => by simp [intsD] at e
  | .tuple _ :: _, _, _, .cons _ _, e => by simp [intsD] at e
  | .dict _ :: _, _, _, .cons _ _, e => by simp [intsD] at e
def rLtF (K : PySem.W.Frag) : R2 := fun x y H Q => rI0 (fun i j => .bl (decide (i < j))) x y H Q ∨ rLtT K x y H Q
theorem op_ltF (hu : X.A.units < cLine) : OpR X (compareOp .Lt) (rLtF X.K) := op_lt.or (op_ltT hu)
theorem od_lt {K : PySem.W.Frag} : OpD K (rLtF K) ltD .fz := by
  intro κ g env σ H x y dx dy dz Q F rx ry e h
  cases dx <;> cases dy <;> simp only [ltD] at e <;> first
    | (cases e; rw [rx.toInt, ry.toInt]; exact .inl ⟨_, _, rfl, rfl, ok_same F (.bl _) h⟩)
    | (simp only [Option.bind_eq_some_iff, Option.map_eq_some_iff] at e
       obtain ⟨ns, e1, ms, e2, rfl⟩ := e
       obtain ⟨a, xs, rfl, ra, za, la⟩ := rx.toTup
       obtain ⟨b, ys, rfl, rb, zb, lb⟩ := ry.toTup
       have ea := ints_of la e1
       have eb := ints_of lb e2
       subst ea eb
       exact .inr ⟨a, b, ns, ms, rfl, rfl, sqT_of ra, sqT_of rb, ok_same F (.bl _) h⟩)
    | cases e
theorem od_eq {K : PySem.W.Frag} : OpD K (rEqD K) eqD .fz := by
  intro κ g env σ H x y dx dy dz Q F rx ry e h
  unfold eqD at e
  split at e
  · rename_i hh
    cases e
    exact ⟨dx, dy, rx.dp hh.1, ry.dp hh.2, hh.1, hh.2, ok_same F (.bl _) h⟩
  · cases e
theorem od_ne {K : PySem.W.Frag} : OpD K (rNeD K) neD .fz := by
  intro κ g env σ H x y dx dy dz Q F rx ry e h
  unfold neD at e
  split at e
  · rename_i hh
    cases e
    exact ⟨dx, dy, rx.dp hh.1, ry.dp hh.2, hh.1, hh.2, ok_same F (.bl _) h⟩
  · cases e
/-- in, a list or a tuple of data -/
def rInF (K : PySem.W.Frag) : R2 := fun x y H Q => ∃ d c ds, Dp K H x d ∧ Dp K H y c ∧ seqD c = some ds ∧ SeqAt.shaped d = true ∧ SeqAt.shaped c = true ∧ Q (.bl (ds.any fun z => PyData.eqv z d)) H
theorem op_inF (hu : X.A.units + 65 < cLine) : OpR X (compareOp .In) (rInF X.K) := by
  intro pins s σ H x y v u Q I rx ry h
  obtain ⟨d, c, ds, hd, he, ec, sd, se, q⟩ := h
  obtain ⟨as, r1⟩ := Dp.reads I d x v hd rx
  obtain ⟨bs, r2⟩ := Dp.reads I c y u he ry
  cases c <;> simp only [seqD] at ec <;> first
    | (cases ec; exact SeqAt.in_list_reads r2 r1 (SeqAt.canLay_of_shaped se) (SeqAt.canLay_of_shaped sd) (room_in_shaped sd hu) ⟨.bl _, H, I, rfl, q⟩)
    | (cases ec; exact SeqAt.in_tuple_reads r2 r1 (SeqAt.canLay_of_shaped se) (SeqAt.canLay_of_shaped sd) (room_in_shaped sd hu) ⟨.bl _, H, I, rfl, q⟩)
    | (simp [SeqAt.shaped, PyData.canLay0] at se; done)
    | cases ec
theorem od_in {K : PySem.W.Frag} : OpD K (rInF K) inD .fz := by
  intro κ g env σ H x y dx dy dz Q F rx ry e h
  unfold inD at e
  split at e
  · rename_i ys ey
    split at e
    · rename_i hh
      cases e
      exact ⟨dx, dy, ys, rx.dp hh.1, ry.dp hh.2, ey, hh.1, hh.2, ok_same F (.bl _) h⟩
    · cases e
  · cases e
def isD : D → D → Option D
  | x, .none => isNoneD x
  | .bool a, .bool b => some (.bool (decide (a = b)))
  | _, _ => none
def isNotD : D → D → Option D
  | x, .none => notNoneD x
  | .bool a, .bool b => some (.bool (!decide (a = b)))
  | _, _ => none
theorem ixD_dict {kvs : List (D × D)} {y z : D} (h : ixD (.dict kvs) y = some z) : ∃ xs i, kvs = [(.none, .tuple xs)] ∧ y = .int i ∧ (ixN xs.length i).bind (fun j => xs[j]?) = some z := by
  unfold ixD at h
  split at h
  · rename_i i e; cases e
  · rename_i i e; cases e
  · rename_i i e; cases e; exact ⟨_, _, rfl, rfl, h⟩
  · cases h
theorem od_ix {K : PySem.W.Frag} : OpD K (rIx K) ixD .fz := by
  intro κ g env σ H x y dx dy dz Q F rx ry e h
  by_cases hd : ∃ kvs, dx = .dict kvs
  · obtain ⟨kvs, rfl⟩ := hd
    obtain ⟨ds, i, rfl, rfl, e⟩ := ixD_dict e
    obtain ⟨j, ej, e⟩ := Option.bind_eq_some_iff.mp e
    rw [ry.toInt]
    obtain ⟨a, xs, rfl, ra, za, la⟩ := rx.toTupO (d := xtD ds) rfl
    obtain ⟨v, ev, rv⟩ := la.get e
    exact .inr (.inl ⟨a, xs, _, v, rfl, rfl, sqT_of ra, by unfold atI; rw [la.length]; show (G7.ixN _ _).bind _ = _; rw [ej]; exact ev, ok_same F rv h⟩)
  cases dx <;> cases dy <;> simp only [ixD] at e <;> first
    | (simp only [Option.bind_eq_some_iff] at e
       obtain ⟨j, ej, e⟩ := e
       rw [ry.toInt]
       first
         | (obtain ⟨a, xs, rfl, ra, za, la⟩ := rx.toLst
            obtain ⟨v, ev, rv⟩ := la.get e
            exact .inl ⟨a, xs, _, v, rfl, rfl, .inl ra, by unfold atI; rw [la.length]; show (G7.ixN _ _).bind _ = _; rw [ej]; exact ev, ok_same F rv h⟩)
         | (obtain ⟨a, xs, rfl, ra, za, la⟩ := rx.toTup
            obtain ⟨v, ev, rv⟩ := la.get e
            exact .inr (.inl ⟨a, xs, _, v, rfl, rfl, sqT_of ra, by unfold atI; rw [la.length]; show (G7.ixN _ _).bind _ = _; rw [ej]; exact ev, ok_same F rv h⟩)))
    | (exact absurd ⟨_, rfl⟩ hd)
    | cases e
theorem cut_rep {K : PySem.W.Frag} {H : Hp} {S : Addr → Prop} {xs : List V} {ds : List D} (la : RepAll K H S xs ds) (lo hi : Option Int) : RepAll K H S (cutV xs lo hi) (cut ds lo hi) := by
  unfold cutV cut
  rw [la.length]
  exact (la.drop _).take _
theorem cut_whole {n : Nat} {ds : List D} {lo hi : Option Int} (e : n = ds.length) (h1 : HT.sIx n 0 lo = 0) (h2 : HT.sIx n n hi = n) : cut ds lo hi = ds := by
  unfold cut
  rw [← e, h1, h2, e]
  simp
/-- t[lo:hi], as it is laid -/
def rSlM (K : PySem.W.Frag) : V → Option Int → Option Int → Hp → VK → Prop := fun x lo hi H Q => ∃ a xs, x = .ref a ∧ SqT K H a xs ∧
  (HT.sIx xs.length 0 lo = 0 ∧ HT.sIx xs.length xs.length hi = xs.length → Q (.ref a) H) ∧ (¬ (HT.sIx xs.length 0 lo = 0 ∧ HT.sIx xs.length xs.length hi = xs.length) → ∀ p o, H p = none → MkT o (cutV xs lo hi) → Q (.ref p) (upd H p o))
theorem sl_tupM : SlR X (rSlM X.K) := by
  intro pins s σ H x v vl vu lo hi sl Q I rx hs pl pu h
  obtain ⟨a, xs, rfl, hx, q1, q2⟩ := h
  by_cases hw : HT.sIx xs.length 0 lo = 0 ∧ HT.sIx xs.length xs.length hi = xs.length
  · exact sl_tupA pins s σ H _ v vl vu lo hi sl Q I rx hs pl pu ⟨a, xs, rfl, hx, q1, fun c => absurd hw c⟩
  · cases rx
    obtain ⟨its, r, ht, hz⟩ := I.tuple hx
    have en : its.toArray.size = xs.length := by rw [List.size_toArray]; exact r.length.symm
    refine ⟨"tuple", _, PyProof.Rows.slot_tuple_getitem.lookup, ht.typeIs, ?_⟩
    refine HT.getItem_tuple_cut ht hs pl pu (by rw [en]; exact hw) ?_ (by rw [en]; exact hz)
    rw [en]
    obtain ⟨o, m, J⟩ := mk_laid I ((r.drop (HT.sIx xs.length 0 lo)).take (HT.sIx xs.length xs.length hi - HT.sIx xs.length 0 lo)) (Nat.le_trans (cutV_length xs lo hi) hz) rfl
    exact ⟨.ref s.heap.objs.size, _, J, rfl, q2 hw _ o (I.hok.fresh (Nat.le_refl _)) m⟩
def rSlF (K : PySem.W.Frag) : V → Option Int → Option Int → Hp → VK → Prop := fun x lo hi H Q => rSlL K x lo hi H Q ∨ rSlM K x lo hi H Q
theorem sl_F : SlR X (rSlF X.K) := sl_list.or sl_tupM
def SlD (K : PySem.W.Frag) (r : V → Option Int → Option Int → Hp → VK → Prop) (f : D → Option Int → Option Int → Option D) (k : RK) : Prop := ∀ (κ : List SK) (g : Rg) (env : En) (σ : St) (H : Hp) (x : V) (lo hi : Option Int) (dx dz : D) (Q : VK), Frm K κ g env σ H → RdB K H g.own x dx → f dx lo hi = some dz →
  (∀ v H' g', Frm K κ g' env σ H' → EStep [] g g' H H' → Res K g' k H H' v dz → Q v H') → r x lo hi H Q
theorem slD_dict {kvs : List (D × D)} {lo hi : Option Int} {z : D} (h : slD (.dict kvs) lo hi = some z) : ∃ xs, kvs = [(.none, .tuple xs)] ∧ z = if HT.sIx xs.length 0 lo = 0 ∧ HT.sIx xs.length xs.length hi = xs.length then xtD xs else .tuple (cut xs lo hi) := by
  unfold slD at h
  split at h
  · rename_i e; cases e
  · rename_i e; cases e
  · rename_i e; cases e; cases h; exact ⟨_, rfl, rfl⟩
  · cases h
theorem sd_F {K : PySem.W.Frag} : SlD K (rSlF K) slD .fz := by
  intro κ g env σ H x lo hi dx dz Q F rx e h
  by_cases hd : ∃ kvs, dx = .dict kvs
  · obtain ⟨kvs, rfl⟩ := hd
    obtain ⟨ds, rfl, rfl⟩ := slD_dict e
    have tr := RdB.xtRep (ds := ds) rx
    obtain ⟨a, xs, rfl, ra, za, la⟩ := rx.toTupO (d := xtD ds) rfl
    refine .inr ⟨a, xs, rfl, sqT_of ra, fun w => ?_, fun w p o np m => ?_⟩
    · rw [la.length] at w
      rw [if_pos w] at h
      exact ok_same F tr h
    · rw [la.length] at w
      rw [if_neg w] at h
      exact ok_tup F (cut_rep la lo hi) (Nat.le_trans (cutV_length _ _ _) za) np m h
  cases dx <;> simp only [slD] at e <;> first
    | (cases e
       first
         | (obtain ⟨a, xs, rfl, ra, za, la⟩ := rx.toLst
            exact .inl ⟨a, xs, rfl, .inl ra, fun p np => ok_lst F (cut_rep la lo hi) (Nat.le_trans (cutV_length _ _ _) za) np h⟩)
         | (have tr := rx.tupRep
            obtain ⟨a, xs, rfl, ra, za, la⟩ := rx.toTup
            refine .inr ⟨a, xs, rfl, sqT_of ra, fun w => ?_, fun _ p o np m => ok_tup F (cut_rep la lo hi) (Nat.le_trans (cutV_length _ _ _) za) np m h⟩
            rw [cut_whole la.length w.1 w.2] at h
            exact ok_same F tr h))
    | (exact absurd ⟨_, rfl⟩ hd)
    | cases e
end
end G7

set_option maxRecDepth 100000
namespace G7
open PySem PySem.Spec PyProof.Rows L2

def insI (x : Int) : List Int → List Int
  | [] => [x]
  | y :: r => if x ≤ y then x :: y :: r else y :: insI x r
def isort : List Int → List Int
  | [] => []
  | x :: r => insI x (isort r)
def sortedD : List D → Option D
  | [.list xs] => (intsD xs).map fun ns => .list ((isort ns).map .int)
  | _ => none
def maxI : List Int → Option Int
  | [] => none
  | x :: r => some (r.foldl max x)
theorem foldl_max (x : Int) : ∀ r : List Int, (r.foldl max x) ∈ x :: r ∧ ∀ y ∈ x :: r, y ≤ r.foldl max x
  | [] => by simp
  | y :: r => by
    obtain ⟨h1, h2⟩ := foldl_max (max x y) r
    refine ⟨?_, fun z hz => ?_⟩
    · rcases List.mem_cons.mp h1 with h1 | h1
      · show List.foldl max (max x y) r ∈ _
        rw [h1]
        rcases Int.le_total x y with c | c
        · rw [Int.max_eq_right c]; simp
        · rw [Int.max_eq_left c]; simp
      · exact List.mem_cons_of_mem _ (List.mem_cons_of_mem _ h1)
    · show z ≤ List.foldl max (max x y) r
      have hm := h2 (max x y) (by simp)
      rcases List.mem_cons.mp hz with rfl | hz
      · exact Int.le_trans (Int.le_max_left _ _) hm
      · rcases List.mem_cons.mp hz with rfl | hz
        · exact Int.le_trans (Int.le_max_right _ _) hm
        · exact h2 z (List.mem_cons_of_mem _ hz)
section
variable {K : PySem.W.Frag} {H : Hp} {S : Addr → Prop}
theorem rda1 {vs : List V} {d : D} (h : RdA K H S vs [d]) : ∃ v, vs = [v] ∧ RdB K H S v d := by
  cases vs with
  | nil => exact h.elim
  | cons v r => cases r with
    | nil => exact ⟨v, rfl, h.1⟩
    | cons _ _ => exact h.2.elim
theorem rda2 {vs : List V} {d e : D} (h : RdA K H S vs [d, e]) : ∃ v w, vs = [v, w] ∧ RdB K H S v d ∧ RdB K H S w e := by
  cases vs with
  | nil => exact h.elim
  | cons v r =>
    obtain ⟨w, rfl, q⟩ := rda1 h.2
    exact ⟨v, w, rfl, h.1, q⟩
theorem repInts : ∀ ns : List Int, RepAll K H S (ns.map V.int) (ns.map .int)
  | [] => .nil
  | n :: ns => .cons (.int n) (repInts ns)
end
section
variable {X : Cx} {K : PySem.W.Frag}
def rLen (K : PySem.W.Frag) : List V → Hp → VK → Prop := fun xs H Q => ∃ p ys, xs = [.ref p] ∧ (SqL K H p ys ∨ SqT K H p ys) ∧ Q (.int ys.length) H
theorem bd_len : BlD K (rLen K) lenD .fz := by
  intro κ g env σ H vs ds dz Q F r e h
  match ds, e with
  | [.list xs], e =>
    cases e
    obtain ⟨v, rfl, rx⟩ := rda1 r
    obtain ⟨a, ys, rfl, ra, za, la⟩ := rx.toLst
    exact ⟨a, ys, rfl, .inl (.inl ra), by rw [la.length]; exact ok_same F (.int _) h⟩
  | [.tuple xs], e =>
    cases e
    obtain ⟨v, rfl, rx⟩ := rda1 r
    obtain ⟨a, ys, rfl, ra, za, la⟩ := rx.toTup
    exact ⟨a, ys, rfl, .inr (sqT_of ra), by rw [la.length]; exact ok_same F (.int _) h⟩
  | [.dict [(.none, .tuple xs)]], e =>
    cases e
    obtain ⟨v, rfl, rx⟩ := rda1 r
    obtain ⟨a, ys, rfl, ra, za, la⟩ := rx.toTupO (d := xtD xs) rfl
    exact ⟨a, ys, rfl, .inr (sqT_of ra), by rw [la.length]; exact ok_same F (.int _) h⟩
def rTupOf (K : PySem.W.Frag) : List V → Hp → VK → Prop := fun xs H Q => ∃ p ys, xs = [.ref p] ∧ ((SqL K H p ys ∧ ∀ l o, H l = none → MkT o ys → Q (.ref l) (upd H l o)) ∨ (SqT K H p ys ∧ Q (.ref p) H))
theorem call_tupleM : CallR X (.type "tuple") (rTupOf X.K) := by
  intro pins s σ H xs us Q I r h
  obtain ⟨p, ys, rfl, ⟨hq, q⟩ | ⟨hq, q⟩⟩ := h
  · obtain ⟨u, rfl, rx⟩ := vals1 r
    cases rx
    obtain ⟨its, rv, pl, hz⟩ := I.list hq
    have en := rv.length
    refine call_tuple_list pl.isList (fun h' kp => ?_) (by simp only [List.size_toArray] <;> omega)
    have J : Inv X pins σ H { s with heap := h' } := I.kept (t' := s.toks) kp
    obtain ⟨o, m, J2⟩ := mk_laid J rv hz rfl
    exact ⟨.ref h'.objs.size, _, J2, rfl, q _ o (J.hok.fresh (Nat.le_refl _)) m⟩
  · exact call_tuple_of pins s σ H _ us Q I r ⟨p, ys, rfl, .inr ⟨hq, q⟩⟩
theorem bd_tup : BlD K (rTupOf K) tupD .fz := by
  intro κ g env σ H vs ds dz Q F r e h
  match ds, e with
  | [.list xs], e =>
    cases e
    obtain ⟨v, rfl, rx⟩ := rda1 r
    obtain ⟨a, ys, rfl, ra, za, la⟩ := rx.toLst
    exact ⟨a, ys, rfl, .inl ⟨.inl ra, fun l o nl m => ok_tup F la za nl m h⟩⟩
  | [.tuple xs], e =>
    cases e
    obtain ⟨v, rfl, rx⟩ := rda1 r
    have t := rx.tupRep
    obtain ⟨a, ys, rfl, ra, za, la⟩ := rx.toTup
    exact ⟨a, ys, rfl, .inr ⟨sqT_of ra, ok_same F t h⟩⟩
  | [.dict [(.none, .tuple xs)]], e =>
    cases e
    obtain ⟨v, rfl, rx⟩ := rda1 r
    have t := RdB.xtRep (ds := xs) rx
    obtain ⟨a, ys, rfl, ra, za, la⟩ := rx.toTupO (d := xtD xs) rfl
    exact ⟨a, ys, rfl, .inr ⟨sqT_of ra, ok_same F t h⟩⟩
theorem bd_max2 : BlD K (fun xs H Q => ∃ i j, xs = [.int i, .int j] ∧ Q (.int (if j > i then j else i)) H) max2D .fz := by
  intro κ g env σ H vs ds dz Q F r e h
  match ds, e with
  | [.int i, .int j], e =>
    cases e
    obtain ⟨v, w, rfl, rx, ry⟩ := rda2 r
    rw [rx.toInt, ry.toInt]
    exact ⟨i, j, rfl, ok_same F (.int _) h⟩
theorem bd_min2 : BlD K (fun xs H Q => ∃ i j, xs = [.int i, .int j] ∧ Q (.int (if j < i then j else i)) H) min2D .fz := by
  intro κ g env σ H vs ds dz Q F r e h
  match ds, e with
  | [.int i, .int j], e =>
    cases e
    obtain ⟨v, w, rfl, rx, ry⟩ := rda2 r
    rw [rx.toInt, ry.toInt]
    exact ⟨i, j, rfl, ok_same F (.int _) h⟩
theorem bd_int : BlD K (fun xs H Q => (∃ i, xs = [.int i] ∧ Q (.int i) H) ∨ ∃ k, xs = [.bl k] ∧ Q (.int (if k then 1 else 0)) H) intD .fz := by
  intro κ g env σ H vs ds dz Q F r e h
  match ds, e with
  | [.int i], e =>
    cases e
    obtain ⟨v, rfl, rx⟩ := rda1 r
    rw [rx.toInt]
    exact .inl ⟨i, rfl, ok_same F (.int _) h⟩
  | [.bool i], e =>
    cases e
    obtain ⟨v, rfl, rx⟩ := rda1 r
    rw [rx.toBl]
    exact .inr ⟨i, rfl, ok_same F (.int _) h⟩
def isExV : D → Bool
  | .dict [(.bool false, .str _)] => true
  | _ => false
def tyD : D → String
  | .none => "NoneType"
  | .bool _ => "bool"
  | .int _ => "int"
  | .str _ => "str"
  | .list _ => "list"
  | .tuple _ => "tuple"
  | .dict [(.none, .tuple _)] => "tuple"
  | .dict [(.bool true, .tuple _)] => "tuple"
  | .dict [(.bool false, .str _)] => "exc"
  | .dict _ => "dict"
def isT (T t : String) : Bool := t == T || (t == "bool" && T == "int")
def isTD (T : String) (d : D) : Option D := some (.bool (isT T (tyD d)))
theorem tyD_dK (kvs : List (Key × V)) (ds : List D) : tyD (.dict ((kvs.map fun p => kD p.1).zip ds)) = "dict" := by
  cases kvs with
  | nil => rfl
  | cons p kvs =>
    obtain ⟨k, v⟩ := p
    cases ds with
    | nil => rfl
    | cons d ds => cases k <;> rfl
theorem tyD_dT (kvs : List (List Key × V)) (ds : List D) : tyD (.dict ((.none, .none) :: (kvs.map fun p => tD p.1).zip ds)) = "dict" := rfl
theorem RdB.tyX {H : Hp} {S : Addr → Prop} {v : V} {d : D} (r : RdB K H S v d) (hx : isExV d = false) : TyX K H v (.type (tyD d)) := by
  rcases r with r | ⟨a, rfl, r⟩
  · cases r with
    | non => exact .base .non
    | bl b => exact .base (.bl b)
    | int i => exact .base (.int i)
    | str x => exact .base (.str x)
    | lst n r z al => exact .base (.lst r)
    | tup n r z al => rcases r with ⟨_, r⟩ | ⟨_, o, r, _⟩; exact .base (.tup r); exact .fTuple r
    | dK n r al => rw [tyD_dK]; exact .base (.dK r)
    | dT n r al => rw [tyD_dT]; exact .base (.dT r)
    | xt n r e z al => exact .fTuple r
    | kt n r z al => exact .base (.tup r)
    | ex n r x c => cases hx
  · cases r with
    | lst r z al => rcases r with r | ⟨o, r⟩; exact .base (.lst r); exact .base (.frz r)
    | dK r al => rw [tyD_dK]; exact .base (.dK r)
    | dT r al => rw [tyD_dT]; exact .base (.dT r)
/-- isinstance of an exception that is held as a value -/
def rIsV (K : PySem.W.Frag) : List V → Hp → VK → Prop := fun xs H Q => ∃ (a C : Addr) (φ : Heap → Prop) (c : V) (cv : Value) (b : Bool), xs = [.ref a, c] ∧ H a = some (.ext φ) ∧ ExcAt C a φ ∧ ExcC K C ∧ (∀ u, RelV c u → u = cv) ∧ PySem.W.kitOne K (.ref C) cv = some b ∧ Q (.bl b) H
theorem call_isV {X : Cx} : CallR X (.builtin "isinstance") (rIsV X.K) := by
  intro pins s σ H xs us Q I r h
  obtain ⟨a, C, φ, c, cv, b, rfl, hA, hx, EC, hcv, e, q⟩ := h
  cases r with
  | cons rx rr =>
    cases rr with
    | cons rt rr =>
      cases rr
      cases rx
      have ec := hcv _ rt
      subst ec
      obtain ⟨oe, vs, hget, h1, h2, hv⟩ := hx _ (show ObjOk X.prog X.w H s.heap a (.ext φ) from I.hok a _ hA).1
      have J : PySem.W.InstAt s.heap a oe C none := by
        obtain ⟨oc, od, oda, osl⟩ := oe
        dsimp only at h1 h2 hv
        subst h1 h2 hv
        exact ⟨hget, rfl, rfl, trivial⟩
      exact PySem.W.kia_one (PySem.W.handS_kitx_exc EC.hg EC.hk EC.hs EC.hd EC.ha EC.hn EC.ht EC.hm) I.kIn J e (fun z => nomatch z) fun tk => ⟨.bl b, H, I.kept (t' := tk) fun _ _ z => z, rfl, q⟩
theorem RdB.toEx {K : PySem.W.Frag} {H : Hp} {S : Addr → Prop} {v : V} {cn : Str} (r : RdB K H S v (exV cn)) : ∃ (a C : Addr) (φ : Heap → Prop), v = .ref a ∧ H a = some (.ext φ) ∧ ExcAt C a φ ∧ ExK K cn C := by
  generalize hd : exV cn = d at r
  have nk : ∀ {kvs : List (Key × V)} {ds : List D}, exV cn ≠ .dict ((kvs.map fun p => kD p.1).zip ds) := fun {kvs ds} h => by
    have := (PyData.dict.inj h).symm
    cases kvs with
    | nil => simp at this
    | cons p kvs => cases ds with
      | nil => simp at this
      | cons x ds =>
        simp at this
        obtain ⟨⟨h1, _⟩, _⟩ := this
        cases hp : p.1 <;> rw [hp] at h1 <;> cases h1
  rcases r with r | ⟨a, rfl, r⟩
  · cases r with
    | dK n r al => exact absurd hd nk
    | ex n r x c => cases hd; exact ⟨_, _, _, rfl, r, x, c⟩
    | _ => cases hd
  · cases r with
    | dK r al => exact absurd hd nk
    | _ => cases hd
theorem se_isi {κ : List SK} {M : List Nat} {k : RK} {w : WE} {T : String} {a : Expr} {x : Str} {p p2 pos : Pos} (hT : (["NoneType", "bool", "int", "str", "list", "tuple", "dict"].all fun t => kitB t T == some (isT T t)) = true) (ha : SE X κ M k a w) (hg : Gl X "isinstance") (hm : X.mg "isinstance" = none)
    (hgT : Gl X x) (hmT : X.mg x = none) (hvT : bootBuiltins x = some (.type T)) (pa : k.rdable = true := by rfl) (hn : x ≠ "__name__" := by decide) (hTm : T ∈ ["NoneType", "bool", "int", "str", "list", "tuple", "dict"] := by decide) (hdb : (x == ("__debug__" : Str)) = false := by decide)
    (he : starEach [a, .Name x p2] X.env = (false, eval a X.env) :: starEach [.Name x p2] X.env := by rfl) (he2 : starEach [.Name x p2] X.env = (false, eval (.Name x p2) X.env) :: starEach [] X.env := by rfl) (hpl : (backTo pos (starEach [.Name x p2] X.env)).any (·.1) = false := by rfl) :
    SE X κ M .fz (.Call (.Name "isinstance" p) [a, .Name x p2] [] pos) (wOp1 (isTD T) w) :=
  SE.of (pe_callB (id := "isinstance") (call_isi.or call_isV) hg hm (by decide +kernel) (pa_cons ha (pa_cons (pe_bltn (v := .ty T) hgT hmT hvT rfl hn hdb) pa_nil he2) he) (by decide) (by decide) he hpl) fun σ H Q ⟨g, env, W, F, hw, post⟩ =>
    ⟨g, env, _, F, hw, fun v H1 g1 e1 d F1 s1 r1 ⟨z, ez, w1⟩ => by
      cases ez
      by_cases hx : isExV d = true
      · obtain ⟨cn, rfl⟩ : ∃ cn, d = exV cn := by
          unfold isExV at hx
          split at hx
          · exact ⟨_, rfl⟩
          · cases hx
        have hv := (r1.rdb pa).toEx
        obtain ⟨a', C, φ, rfl, hA, hx2, EK⟩ := hv
        have hk : PySem.W.kitOne X.K (.ref C) (.type T) = some false := beq_iff_eq.mp (List.all_eq_true.mp EK.typ T hTm)
        have hf : isT T "exc" = false := by
          revert hTm
          simp only [List.mem_cons, List.not_mem_nil, or_false]
          rintro (h | h | h | h | h | h | h) <;> subst h <;> decide
        refine .inr ⟨a', C, φ, .ty T, .type T, false, rfl, hA, hx2, EK.kit, fun u r => r, hk, ?_⟩
        have w1 : W (.bool (isT T "exc")) e1 := w1
        rw [hf] at w1
        exact post _ H1 g1 e1 _ F1 s1 (.bl _) w1
      refine .inl ⟨v, .ty T, _, .type T, isT T (tyD d), rfl, .ty T, (r1.rdb pa).tyX (by simpa using hx), kit_ty ?_, post _ H1 g1 e1 _ F1 s1 (.bl _) w1⟩
      have := List.all_eq_true.mp hT (tyD d) (by
        have hn : tyD d ≠ "exc" := fun q => by
          unfold tyD at q
          split at q <;> first | (exact absurd q (by decide)) | (exact hx rfl)
        revert hn
        unfold tyD; split <;> simp)
      exact beq_iff_eq.mp this⟩
def cO (K : PySem.W.Frag) (κ : List SK) (M : List Nat) (w : WO) : TO := fun σ H Q => ∃ g env W, Frm K κ g env σ H ∧ w env W ∧ ∀ o H' g' env', Frm K κ g' env' σ H' → EStep M g g' H H' → W o env' → Q o H'
def SO (X : Cx) (κ : List SK) (M : List Nat) (e : Option Expr) (w : WO) : Prop := PO X e (cO X.K κ M w)
theorem SO.of {κ : List SK} {M : List Nat} {e : Option Expr} {w : WO} {t : TO} (h : PO X e t) (i : ∀ σ H Q, cO X.K κ M w σ H Q → t σ H Q) : SO X κ M e w := ⟨fun pins s σ H Q I q => h.run pins s σ H Q I (i σ H Q q)⟩
theorem so_n {κ : List SK} {M : List Nat} : SO X κ M none woN := SO.of po_none fun σ H Q ⟨g, env, W, F, hw, post⟩ => post none H g env F .refl hw
theorem so_s {κ : List SK} {M : List Nat} {k : RK} {e : Expr} {w : WE} (h : SE X κ M k e w) (pa : k.rdable = true := by rfl) : SO X κ M (some e) (woS w) :=
  SO.of (po_some h) fun σ H Q ⟨g, env, W, F, hw, post⟩ => ⟨g, env, _, F, hw, fun v H1 g1 e1 d F1 s1 r1 ⟨i, e, w1⟩ => by
    subst e
    exact ⟨i, (r1.rdb pa).toInt, post (some i) H1 g1 e1 F1 s1 w1⟩⟩
theorem se_sl {κ : List SK} {M : List Nat} {k ka : RK} {a : Expr} {lo hi : Option Expr} {wa : WE} {wl wh : WO} {r : V → Option Int → Option Int → Hp → VK → Prop} {f : D → Option Int → Option Int → Option D} {p2 pos : Pos} (hr : SlR X r) (hf : SlD X.K r f k) (ha : SE X κ M ka a wa) (hl : SO X κ M lo wl) (hh : SO X κ M hi wh)
    (hs : stable ka M = true := by rfl) (pa : ka.rdable = true := by rfl) : SE X κ M k (.Subscript a (.Slice lo hi none p2) pos) (wSl f wa wl wh) :=
  SE.of (pe_slice hr ha hl hh) fun σ H Q ⟨g, env, W, F, hw, post⟩ => ⟨g, env, _, F, hw, fun x H1 g1 e1 d1 F1 s1 r1 w1 => ⟨g1, e1, _, F1, w1, fun l H2 g2 e2 F2 s2 w2 => ⟨g2, e2, _, F2, w2, fun u H3 g3 e3 F3 s3 ⟨z, ez, w3⟩ => by
    have s12 := s1.tr s2 F F1
    have s123 := s12.tr s3 F F2
    refine hf κ g3 e3 σ H3 x l u d1 z Q F3 (((r1.step s2 F1 hs).step s3 F2 hs).rdb pa) ez fun v H4 g4 F4 s4 r4 => ?_
    exact post v H4 g4 e3 z F4 (s123.tr (s4.mono fun _ q => nomatch q) F F3) (r4.back fun p q => s123.there F F3 q) w3⟩⟩⟩
end
end G7

set_option maxRecDepth 100000
namespace G7
open PySem PySem.Spec PyProof.Rows L2

section
variable {K : PySem.W.Frag} {κ : List SK} {N : List Nat}
/-- a list or a tuple at a -/
def Src (K : PySem.W.Frag) (N : List Nat) (a : Addr) (xs : List D) (l : Bool) (g : Rg) (H : Hp) : Prop :=
  ∃ vs, vs.length ≤ sizeLine ∧ RepAll K H g.own vs xs ∧ (if l = true then Rd H a (.lst vs) ∧ ¬ g.P a ∧ ∀ j, g.al j = some a → j ∈ N else (¬ g.own a ∧ Rd H a (.tup vs)) ∨ KTup K a vs)
theorem SStep.off {M : List Nat} {g g' : Rg} {H H' : Hp} {env : En} {σ : St} (s : SStep κ M g g' H H') (F : Frm K κ g env σ H) (hv : 999 ∉ M) : ∀ b o, ¬ g.own b → H b = some o → H' b = some o := fun b o n e =>
  s.keep b o e (fun p => n (F.p_own p)) (fun i _ z => n (.inr ⟨i, z⟩)) fun h => absurd h hv
theorem SStep.own {M : List Nat} {g g' : Rg} {H H' : Hp} (s : SStep κ M g g' H H') : ∀ a, g'.own a → g.own a ∨ H a = none := fun a q => by
  rcases q with q | ⟨i, q⟩
  · exact (s.dn a q).imp .inl id
  · rcases s.al i a q with z | ⟨j, _, _, z⟩ | z
    · exact .inl (.inr ⟨i, z⟩)
    · exact .inl (.inr ⟨j, z⟩)
    · exact .inr z
theorem Src.holds (h9 : 999 ∈ N) {a : Addr} {xs : List D} {l : Bool} : ∀ (K' : PySem.W.Frag) M g g' env env' σ σ' H H', (∀ i ∈ M, i ∉ N) → Frm K' κ g env σ H → Frm K' κ g' env' σ' H' → SStep κ M g g' H H' → Src K N a xs l g H → Src K N a xs l g' H' := by
  intro K' M g g' env env' σ σ' H H' dis F F' s ⟨vs, z, al, h⟩
  have hv : 999 ∉ M := fun q => dis _ q h9
  have off := s.off F hv
  refine ⟨vs, z, al.keep off s.own, ?_⟩
  cases l with
  | true =>
    obtain ⟨r, np, na⟩ := h
    refine ⟨rd_keep (fun o e => s.keep a o e np (fun i hi z => dis i hi (na i z)) fun h => absurd h hv) r, fun q => (s.pd a q).elim np fun e => rd_tracked r e, fun j q => (s.al j a q).elim (na j) fun e => e.elim (fun ⟨i, hi, _, z⟩ => absurd (na i z) (dis i hi)) fun e => absurd e (rd_tracked r)⟩
  | false =>
    have h' : (¬ g.own a ∧ Rd H a (.tup vs)) ∨ KTup K a vs := h
    show (¬ g'.own a ∧ Rd H' a (.tup vs)) ∨ KTup K a vs
    refine h'.imp (fun ⟨n, r⟩ => ⟨fun q => (s.own a q).elim n fun e => rd_tracked r e, rd_keep (fun o e => off a o n e) r⟩) id
theorem src_holds (h9 : 999 ∈ N := by first | assumption | decide) {a : Addr} {xs : List D} {l : Bool} : Holds κ N (Src K N a xs l) := fun K' M g g' env env' σ σ' H H' => Src.holds h9 K' M g g' env env' σ σ' H H'
def nOf : RK → List Nat
  | .ow i => [i, 999]
  | _ => [999]
theorem n9 (k : RK) : 999 ∈ nOf k := by cases k <;> simp [nOf]
/-- from an answer -/
theorem src_lst {g : Rg} {env : En} {σ : St} {H0 H : Hp} {k : RK} {v : V} {ys0 : List D} (F : Frm K κ g env σ H) (pa : k.rdable = true) (r : Res K g k H0 H v (.list ys0)) : ∃ a, v = .ref a ∧ Src K (nOf k) a ys0 true g H := by
  have lst : ∃ a ys, v = .ref a ∧ Rd H a (.lst ys) ∧ ys.length ≤ sizeLine ∧ RepAll K H g.own ys ys0 ∧ ¬ g.P a ∧ ∀ j, g.al j = some a → j ∈ nOf k := by
    cases k with
    | fz =>
      cases r with
      | lst n q z al => exact ⟨_, _, rfl, .inl q, z, al, fun p => n (F.p_own p), fun j e => absurd (.inr ⟨j, e⟩) n⟩
    | rd =>
      rcases r with r | ⟨a, rfl, np, na, r⟩
      · cases r with
        | lst n q z al => exact ⟨_, _, rfl, .inl q, z, al, fun p => n (F.p_own p), fun j e => absurd (.inr ⟨j, e⟩) n⟩
      · cases r with
        | lst q z al => exact ⟨_, _, rfl, q, z, al, np, fun j e => absurd (F.il a na) (F.alo j a e).1⟩
    | nw =>
      obtain ⟨p, rfl, _, hO, hP, r⟩ := r
      cases r with
      | lst q z al => exact ⟨_, _, rfl, .inl q, z, al, hP, fun j e => absurd hO (F.alo j p e).1⟩
    | ow i =>
      obtain ⟨p, rfl, ea, r⟩ := r
      cases r with
      | lst q z al => exact ⟨_, _, rfl, .inl q, z, al, fun z => (F.alo i p ea).1 (F.pl p z).1, fun j e => by rw [F.inj j i p e ea]; simp [nOf]⟩
    | pl => simp [RK.rdable] at pa
    | np => simp [RK.rdable] at pa
  obtain ⟨a, ys, e1, q, z, al, np, na⟩ := lst
  exact ⟨a, e1, ys, z, al, q, np, na⟩
theorem src_tup {g : Rg} {H0 H : Hp} {k : RK} {v : V} {ys0 : List D} {N : List Nat} (pa : k.rdable = true) (r : Res K g k H0 H v (.tuple ys0)) : ∃ a, v = .ref a ∧ Src K N a ys0 false g H := by
  obtain ⟨a, ys, e1, q, z, al⟩ := (r.rdb pa).toTup
  exact ⟨a, e1, ys, z, al, q⟩
theorem src_of {g : Rg} {env : En} {σ : St} {H0 H : Hp} {k : RK} {v : V} {d : D} {xs : List D} (F : Frm K κ g env σ H) (pa : k.rdable = true) (r : Res K g k H0 H v d) (e : seqD d = some xs) : ∃ a l, v = .ref a ∧ Src K (nOf k) a xs l g H := by
  cases d with
  | list ys0 =>
    simp only [seqD, Option.some.injEq] at e
    subst e
    obtain ⟨a, e, s⟩ := src_lst F pa r
    exact ⟨a, true, e, s⟩
  | tuple ys0 =>
    simp only [seqD, Option.some.injEq] at e
    subst e
    obtain ⟨a, e, s⟩ := src_tup pa r
    exact ⟨a, false, e, s⟩
  | none => simp [seqD] at e
  | bool _ => simp [seqD] at e
  | int _ => simp [seqD] at e
  | str _ => simp [seqD] at e
  | dict kvs =>
    rcases dict_xt kvs with ⟨ys, rfl⟩ | hn
    · simp only [seqD, Option.some.injEq] at e
      subst e
      obtain ⟨a, ys, e1, q, z, al⟩ := (r.rdb pa).toTupO (d := xtD ys) rfl
      exact ⟨a, false, e1, ys, z, al, q⟩
    · exfalso
      unfold seqD at e
      split at e
      · rename_i e1; cases e1
      · rename_i e1; cases e1
      · rename_i e1; cases e1; exact hn _ rfl
      · cases e
end
section
variable {X : Cx} {tg : Expr}
/-- a list or a tuple is walked -/
def iSeq (K : PySem.W.Frag) (tl : TE) : TI := fun σ H R => tl σ H fun x H1 => ∃ a, x = .ref a ∧ ((∃ xs, SqL K H1 a xs ∧ R (Itl K a) H1) ∨ (∃ xs, SqT K H1 a xs ∧ R (Itt K a) H1))
theorem pi_seq {l : Expr} {tl : TE} (hl : PE X l tl) : PI X tg l (iSeq X.K tl) := by
  refine ⟨fun pins s σ H R I h => ?_⟩
  refine thn (hl.run pins s σ H _ I h) fun v s1 ⟨x, H1, I1, r1, q1⟩ => ?_
  obtain ⟨a, e, q⟩ := q1
  subst e
  cases r1
  rcases q with ⟨xs, hq, q⟩ | ⟨xs, hq, q⟩
  · obtain ⟨its, rv, p, hz⟩ := I1.list hq
    refine wpAny_pyIter_list p.isList ?_
    refine ⟨s1.heap.objs.size, [s1.heap.objs.size], _, _, H1, rfl, I1.kept (t' := s1.toks) fun b o e => Heap.get?_push_of_some _ e, turn_list a _, ⟨_, Heap.get?_push_size _ rfl, rfl, rfl⟩, fun b hb => ?_, q⟩
    have e : b = s1.heap.objs.size := by simpa using hb
    subst e
    exact I1.fpOk (Nat.le_refl _) (I1.hok.fresh (Nat.le_refl _))
  · obtain ⟨its, rv, p, hz⟩ := I1.tuple hq
    refine wpAny_pyIter_tuple (show s1.heap.IsTuple a its.toArray from p) ?_
    refine ⟨s1.heap.objs.size, [s1.heap.objs.size], _, _, H1, rfl, I1.kept (t' := s1.toks) fun b o e => Heap.get?_push_of_some _ e, turn_tuple a _, ⟨_, Heap.get?_push_size _ rfl, rfl, rfl⟩, fun b hb => ?_, q⟩
    have e : b = s1.heap.objs.size := by simpa using hb
    subst e
    exact I1.fpOk (Nat.le_refl _) (I1.hok.fresh (Nat.le_refl _))
theorem sq_l {K : PySem.W.Frag} {N : List Nat} {a : Addr} {xs : List D} {g : Rg} {H : Hp} (h : Src K N a xs true g H) : ∃ vs, SqL K H a vs ∧ RepAll K H g.own vs xs := by
  obtain ⟨vs, z, al, r, _⟩ := h; exact ⟨vs, .inl r, al⟩
theorem sq_t {K : PySem.W.Frag} {N : List Nat} {a : Addr} {xs : List D} {g : Rg} {H : Hp} (h : Src K N a xs false g H) : ∃ vs, SqT K H a vs ∧ RepAll K H g.own vs xs := by
  obtain ⟨vs, z, al, r⟩ := h; exact ⟨vs, sqT_of r, al⟩
theorem src_len {K : PySem.W.Frag} {N : List Nat} {a : Addr} {xs : List D} {l : Bool} {g : Rg} {H : Hp} (h : Src K N a xs l g H) : xs.length ≤ sizeLine := by
  obtain ⟨vs, z, al, _⟩ := h; rw [← al.length]; exact z
theorem walk_l {K : PySem.W.Frag} {tb : Bool} {N : List Nat} {a : Addr} {xs : List D} : Walk K (Itl K a) tb xs (Src K N a xs true) where
  go := fun g H i h _ hi => by
    obtain ⟨vs, q, al⟩ := sq_l h
    obtain ⟨v, e, _⟩ := al.get (List.getElem?_eq_getElem hi)
    exact ⟨vs, v, q, e⟩
  yd := fun g H i v H' h _ hi ⟨e, y⟩ => by
    obtain ⟨vs, q, al⟩ := sq_l h
    subst e
    obtain ⟨x, ex, r⟩ := al.getV (y vs q)
    exact ⟨fun _ _ q => q, x, ex, .inl r⟩
  stop := fun g H h => by
    obtain ⟨vs, q, al⟩ := sq_l h
    exact ⟨vs, q, Nat.le_of_eq al.length⟩
  lenL := fun g H h => src_len h
theorem walk_t {K : PySem.W.Frag} {tb : Bool} {N : List Nat} {a : Addr} {xs : List D} : Walk K (Itt K a) tb xs (Src K N a xs false) where
  go := fun g H i h _ hi => by
    obtain ⟨vs, q, al⟩ := sq_t h
    obtain ⟨v, e, _⟩ := al.get (List.getElem?_eq_getElem hi)
    exact ⟨vs, v, q, e⟩
  yd := fun g H i v H' h _ hi ⟨e, y⟩ => by
    obtain ⟨vs, q, al⟩ := sq_t h
    subst e
    obtain ⟨x, ex, r⟩ := al.getV (y vs q)
    exact ⟨fun _ _ q => q, x, ex, .inl r⟩
  stop := fun g H h => by
    obtain ⟨vs, q, al⟩ := sq_t h
    exact ⟨vs, q, Nat.le_of_eq al.length⟩
  lenL := fun g H h => src_len h
variable {κ : List SK} {M : List Nat} {k kb : RK} {a b : Expr} {w wb : WE} {p pos : Pos}
theorem si_seq (ha : SE X κ M k a w) (pa : k.rdable = true := by rfl) : SI X κ M (nOf k) tg a (wiSeq w) :=
  SI.of (pi_seq ha) fun σ H R ⟨g, env, W, F, hw, post⟩ => ⟨g, env, _, F, hw, fun v H1 g1 e1 d F1 s1 r1 ⟨xs, ex, w1⟩ => by
    obtain ⟨c, l, rfl, sr⟩ := src_of F1 pa r1 ex
    refine ⟨c, rfl, ?_⟩
    cases l with
    | true =>
      obtain ⟨vs, q, _⟩ := sq_l sr
      exact .inl ⟨vs, q, post _ H1 g1 e1 xs _ F1 s1 sr (src_holds (n9 _)) walk_l w1⟩
    | false =>
      obtain ⟨vs, q, _⟩ := sq_t sr
      exact .inr ⟨vs, q, post _ H1 g1 e1 xs _ F1 s1 sr (src_holds (n9 _)) walk_t w1⟩⟩
theorem rangeD_len (lo hi : Int) : (rangeD lo hi).length = (hi - lo).toNat := by simp [rangeD]
theorem rangeD_get {lo hi : Int} {i : Nat} (h : i < (hi - lo).toNat) : (rangeD lo hi)[i]? = some (.int (lo + (i : Int))) := by
  unfold rangeD
  rw [List.getElem?_map, List.getElem?_range h]
  rfl
theorem walk_r {K : PySem.W.Frag} {tb : Bool} {lo hi : Int} (hl : (hi - lo).toNat ≤ sizeLine) : Walk K (Itr lo (hi - lo).toNat) tb (rangeD lo hi) (fun _ _ => True) where
  go := fun g H i _ _ hi => by rw [rangeD_len] at hi; exact hi
  yd := fun g H i v H' _ _ hi ⟨e, y⟩ => by
    rw [rangeD_len] at hi
    subst e y
    exact ⟨fun _ _ q => q, _, rangeD_get hi, .inl (.int _)⟩
  stop := fun g H _ => by rw [rangeD_len]; exact Nat.le_refl _
  lenL := fun g H _ => by rw [rangeD_len]; exact hl
theorem lim_eq : lim = 1000000 := rfl
theorem si_rg1 (hg : Gl X "range") (hm : X.mg "range" = none) (ha : SE X κ M k a w) (pa : k.rdable = true := by rfl) (hs : starEach [a] X.env = [(false, eval a X.env)] := by rfl) (he : starEach [a] X.env = (false, eval a X.env) :: starEach [] X.env := by rfl) : SI X κ M [] tg (.Call (.Name "range" p) [a] [] pos) (wiRg1 w) :=
  SI.of (pi_range1 hg hm (pa_cons ha pa_nil he) hs) fun σ H R ⟨g, env, W, F, hw, post⟩ => ⟨g, env, _, F, hw, fun v H1 g1 e1 d F1 s1 r1 ⟨n, e, hn0, hn, w1⟩ => by
    subst e
    have ev := (r1.rdb pa).toInt
    subst ev
    have hl := lim_eq
    refine ⟨n, rfl, by omega, by omega, ?_⟩
    have e0 : n.toNat = (n - 0).toNat := by simp
    rw [e0]
    exact post _ H1 g1 e1 _ _ F1 s1 trivial (fun _ _ _ _ _ _ _ _ _ _ _ _ _ _ _ => trivial) (walk_r (lim_line (by omega))) w1⟩
theorem si_rg2 (hg : Gl X "range") (hm : X.mg "range" = none) (ha : SE X κ M k a w) (hb : SE X κ M kb b wb) (st : stable k M = true := by rfl) (pa : k.rdable = true := by rfl) (pb : kb.rdable = true := by rfl) (hs : starEach [a, b] X.env = [(false, eval a X.env), (false, eval b X.env)] := by rfl) (hs2 : starEach [b] X.env = [(false, eval b X.env)] := by rfl)
    (he : starEach [a, b] X.env = (false, eval a X.env) :: starEach [b] X.env := by rfl) (he2 : starEach [b] X.env = (false, eval b X.env) :: starEach [] X.env := by rfl) : SI X κ M [] tg (.Call (.Name "range" p) [a, b] [] pos) (wiRg2 w wb) :=
  SI.of (pi_range2 hg hm (pa_cons ha (pa_cons hb pa_nil he2) he) hs hs2) fun σ H R ⟨g, env, W, F, hw, post⟩ => ⟨g, env, _, F, hw, fun v H1 g1 e1 d F1 s1 r1 w1 => ⟨g1, e1, _, F1, w1, fun u H2 g2 e2 d2 F2 s2 r2 ⟨m, n, em, en, h1, h2, h3, h4, w2⟩ => by
    subst em en
    have ev := (r1.rdb pa).toInt
    have eu := (r2.rdb pb).toInt
    subst ev eu
    have hl := lim_eq
    refine ⟨m, n, rfl, ⟨by omega, by omega, by omega, by omega⟩, ?_⟩
    refine post _ H2 g2 e2 _ _ F2 (s1.tr s2 F F1) trivial (fun _ _ _ _ _ _ _ _ _ _ _ _ _ _ _ => trivial) (walk_r ?_) w2
    rw [sizeLine_eq]; omega⟩⟩
def sameK (x y : D) : Bool := match x, y with
  | .list _, .list _ => true
  | .tuple _, .tuple _ => true
  | _, _ => false
theorem zip_len {xs ys : List D} : (zipD xs ys).length = min xs.length ys.length := by simp [zipD]
theorem zip_get {xs ys : List D} {i : Nat} {x y : D} (hx : xs[i]? = some x) (hy : ys[i]? = some y) : (zipD xs ys)[i]? = some (.tuple [x, y]) := by
  simp [zipD, List.getElem?_zipWith, hx, hy]
def wiZip2 (a b : WE) : WI := fun e Q => a e fun x e1 => b e1 fun y e2 => ∃ xs ys, sameK x y = true ∧ seqD x = some xs ∧ seqD y = some ys ∧ Q (zipD xs ys) e2
section
variable {elt iter : Expr} {ifs : List Expr} {scope : Scope} {own : List (Str × Nat)} {wi : WI} {N : List Nat} {f : WG} {ts : List Nat} {t : WT}
def SPs (X : Cx) (κ : List SK) (M : List Nat) (ifs : List Expr) (t : WT) : Prop := PTs X ifs (cT X.K κ M t)
theorem sp_nil : SPs X κ M [] G7.tYes := ⟨fun pins s0 σ H Q I ⟨g, env, W, F, hw, post⟩ => pts_nil.run pins s0 σ H Q I (post true H g env F .refl hw)⟩
theorem sp_one {c : Expr} (h : ST X κ M c t) : SPs X κ M [c] t := pts_one h
theorem se_lc (hc : X.calm = true) (hN : X.N.Nodup) (hi : SI X κ M N tg iter wi) (ok : BlkOk X.N X.env.scope scope own)
    (hg : ∀ (s : Shared) (H : Hp) (C : Addr) (cl : List (Str × Addr)) (fp : List Addr), SG (X.blk s H scope (compEnvC scope cl C X.env) fp) κ ts tg f) (ht : ∀ (s : Shared) (H : Hp) (C : Addr) (cl : List (Str × Addr)) (fp : List Addr), SPs (X.blk s H scope (compEnvC scope cl C X.env) fp) κ M ifs t)
    (he : ∀ (s : Shared) (H : Hp) (C : Addr) (cl : List (Str × Addr)) (fp : List Addr), SE (X.blk s H scope (compEnvC scope cl C X.env) fp) κ M .fz elt w) (hv : ∀ i ∈ own.map (·.2), kindOf κ i = .v := by decide) (hts : ∀ i ∈ ts, i ∈ own.map (·.2) := by decide) (dis : ∀ i ∈ M, i ∉ N := by decide) (hs : ∀ x, foldedSetIterable iter X.env x = pure x := by intro _; rfl) :
    SE X κ M .nw (.ListComp elt [⟨tg, iter, ifs, 0⟩] scope pos) (wComp wi f (own.map (·.2)) t w) :=
  SE.of (pe_lc (g := cG X.K κ ts (isTupE tg) f) (tt := cT X.K κ M t) (te := cE X.K κ M .fz w) hc hN hi ok hg ht he hs) fun σ H Q h => comp_go hv hts dis σ H Q h
theorem ps_lcAsg {i : Nat} {y : Str} {py spos : Pos} (hc : X.calm = true) (hN : X.N.Nodup) (hy : X.N[i]? = some y) (hyl : X.env.scope.names.lookup y = some .local) (hsw : swapsWith (.ListComp elt [⟨tg, iter, ifs, 0⟩] scope pos) (some (.Name y py)) spos.line X.env = pure true) (hi : SI X κ M N tg iter wi) (ok : BlkOk X.N X.env.scope scope own)
    (hg : ∀ (s : Shared) (H : Hp) (C : Addr) (cl : List (Str × Addr)) (fp : List Addr), SG (X.blk s H scope (compEnvC scope cl C X.env) fp) κ ts tg f) (ht : ∀ (s : Shared) (H : Hp) (C : Addr) (cl : List (Str × Addr)) (fp : List Addr), SPs (X.blk s H scope (compEnvC scope cl C X.env) fp) κ M ifs t)
    (he : ∀ (s : Shared) (H : Hp) (C : Addr) (cl : List (Str × Addr)) (fp : List Addr), SE (X.blk s H scope (compEnvC scope cl C X.env) fp) κ M .fz elt w) (hv : ∀ i ∈ own.map (·.2), kindOf κ i = .v) (hts : ∀ i ∈ ts, i ∈ own.map (·.2)) (dis : ∀ i ∈ M, i ∉ N) (hs : ∀ x, foldedSetIterable iter X.env x = pure x) :
    PS X (.Assign [.Name y py] (.ListComp elt [⟨tg, iter, ifs, 0⟩] scope pos) spos) (tAsg (cE X.K κ M .nw (wComp wi f (own.map (·.2)) t w)) (gName i)) :=
  ⟨fun pins s0 σ H D I h => (ps_setLc (g := cG X.K κ ts (isTupE tg) f) (tt := cT X.K κ M t) (te := cE X.K κ M .fz w) hc hN hy hyl hsw hi ok hg ht he hs).run pins s0 σ H D I (comp_go hv hts dis σ H _ h)⟩
theorem cE_nf (σ : St) (H : Hp) (Q : VK) (h : cE X.K κ M .fz w σ H Q) : cE X.K κ M .nw w σ H Q := by
  obtain ⟨g, env, W, F, hw, post⟩ := h
  refine ⟨g, env, W, F, hw, fun v H' g' env' d F' s ⟨p, e1, n, hO, hP, r⟩ wd => ?_⟩
  subst e1
  have F2 : Frm X.K κ { g' with O := g.O } env' σ H' := F'.less rfl rfl rfl (fun a q => F.il a (by rw [← s.I]; exact q)) (fun a q => (F.pl a (by rw [← s.P]; exact q)).1) s.up
  refine post _ H' { g' with O := g.O } env' d F2 ⟨s.al, s.P, s.I, fun _ q => q, fun _ q => .inl q, s.keep, s.pool⟩ ?_ wd
  have sub : ∀ a, Rg.own { g' with O := g.O } a → g'.own a := fun a q => q.imp (s.up a) id
  have np : ¬ Rg.own { g' with O := g.O } p := fun q => by
    rcases q with q | ⟨i, q⟩
    · exact F.ot p q n
    · exact (F'.alo i p q).1 hO
  exact (r.keep (S' := Rg.own { g' with O := g.O }) (H' := H') (fun _ q => q) (fun _ _ _ q => q) fun a q => .inl (sub a q)).rep np
variable {M2 : List Nat} {rk : RK}
/-- .. a slot of told things -/
theorem ss_lcV {i : Nat} {y : Str} {py spos : Pos} (hc : X.calm = true) (hN : X.N.Nodup) (hy : X.N[i]? = some y) (hyl : X.env.scope.names.lookup y = some .local) (hsw : swapsWith (.ListComp elt [⟨tg, iter, ifs, 0⟩] scope pos) (some (.Name y py)) spos.line X.env = pure true) (hi : SI X κ M N tg iter wi) (ok : BlkOk X.N X.env.scope scope own)
    (hg : ∀ (s : Shared) (H : Hp) (C : Addr) (cl : List (Str × Addr)) (fp : List Addr), SG (X.blk s H scope (compEnvC scope cl C X.env) fp) κ ts tg f) (ht : ∀ (s : Shared) (H : Hp) (C : Addr) (cl : List (Str × Addr)) (fp : List Addr), SPs (X.blk s H scope (compEnvC scope cl C X.env) fp) κ M ifs t)
    (he : ∀ (s : Shared) (H : Hp) (C : Addr) (cl : List (Str × Addr)) (fp : List Addr), SE (X.blk s H scope (compEnvC scope cl C X.env) fp) κ M .fz elt w) (hk : kindOf κ i = .v := by decide) (hv : ∀ i ∈ own.map (·.2), kindOf κ i = .v := by decide) (hts : ∀ i ∈ ts, i ∈ own.map (·.2) := by decide) (dis : ∀ i ∈ M, i ∉ N := by decide) (sub : ∀ i ∈ M, i ∈ M2 := by decide) (hs : ∀ x, foldedSetIterable iter X.env x = pure x := by intro _; rfl) :
    SS X κ M2 rk (.Assign [.Name y py] (.ListComp elt [⟨tg, iter, ifs, 0⟩] scope pos) spos) (wAsg i (wComp wi f (own.map (·.2)) t w)) :=
  ss_tAsg ⟨fun pins s0 σ H D I h => (ps_lcAsg hc hN hy hyl hsw hi ok hg ht he hv hts dis hs).run pins s0 σ H D I (cE_nf σ H _ h)⟩ hk sub
end
theorem md_append {K : PySem.W.Frag} : MtD K rAppend appendF [.fz] := by
  intro κ g env σ H0 H a xs dxs ds dxs' vs z Q F hO hH zl al r e h
  match ds, vs, r, e with
  | [d], [v], r, e =>
    simp only [appendF] at e
    split at e
    · rename_i hl
      cases e
      have hz : xs.length < sizeLine := by rw [al.length]; exact Nat.lt_of_lt_of_le hl (by rw [sizeLine_eq]; decide)
      exact ⟨a, xs, v, rfl, rfl, hH, hz, h _ _ (al.append (.cons r.1 .nil)) (by simp; omega) .non⟩
    · cases e
end
def skOf : PM → SK
  | .fz => .v
  | .rd => .r
  | .pl => .p
section
variable {P : Program} {w : World} {K : PySem.W.Frag} {mg : Str → Option Value} {base : Heap}
def startE (n : Nat) (ds : List D) : En := ds.map some ++ List.replicate (n - ds.length) none
/-- no parameter is the store -/
theorem start_ns {κ ks : List SK} {n m : Nat} {ds : List D} (hp : κ.take m = ks) (hk : ∀ k ∈ ks, k ≠ .s) (hl : ds.length = m) {i : Nat} {d : D} (e : (startE n ds)[i]? = some (some d)) : kindOf κ i ≠ .s := by
  have hi : i < ds.length := by
    apply Classical.byContradiction
    intro c
    unfold startE at e
    rw [List.getElem?_append_right (by simpa using c), List.getElem?_replicate] at e
    split at e <;> cases e
  intro hs
  unfold kindOf at hs
  cases q : κ[i]? with
  | none => rw [q] at hs; cases hs
  | some k =>
    rw [q] at hs
    have : (κ.take m)[i]? = some k := by rw [List.getElem?_take_of_lt (by omega), q]
    rw [hp] at this
    exact hk k (List.mem_of_getElem? this) hs
theorem skOf_ns {ms : List PM} : ∀ k ∈ ms.map skOf, k ≠ SK.s := fun k hk => by
  obtain ⟨m, _, rfl⟩ := List.mem_map.mp hk
  cases m <;> decide
theorem args_slot {H : Hp} {O P' : Addr → Prop} : ∀ {ms : List PM} {vs : List V} {ds : List D} {i : Nat} {d : D}, ArgsOk K H O P' ms vs ds → ds[i]? = some d → ∃ v m, vs[i]? = some v ∧ ms[i]? = some m ∧ ArgOk K H O P' m v d
  | [], [], [], i, d, _, e => by simp at e
  | m :: ms, v :: vs, d :: ds, 0, d', h, e => by
    simp at e; subst e
    exact ⟨v, m, rfl, rfl, h.1⟩
  | m :: ms, v :: vs, d :: ds, i + 1, d', h, e => by
    obtain ⟨v', m', h1, h2, h3⟩ := args_slot (i := i) (d := d') h.2 (by simpa using e)
    exact ⟨v', m', by simpa using h1, by simpa using h2, h3⟩
  | [], [], _ :: _, _, _, h, _ => h.elim
  | [], _ :: _, _, _, _, h, _ => h.elim
  | _ :: _, [], _, _, _, h, _ => h.elim
  | _ :: _, _ :: _, [], _, _, h, _ => h.elim
theorem fn_def {x qual : Str} {st : Stmt} {f : Addr} {fd : FuncData} {N ps : List Str} {lv : Nat} {κ : List SK} {M : List Nat} {rk : RK} {S : FS} {wb : WS} (ms : List PM) (F : Fun K x qual st f fd) (Sc : FnScope N ps (defScope st)) (hκ : κ.length = N.length) (hms : ms.length = ps.length)
    (hp : κ.take ms.length = ms.map skOf) (hr : rk = .fz ∨ rk = .nw) (hq : ∀ i, kindOf κ i ≠ .q)
    (body : ∀ (cdv : Value) (A : Around) (outer : List Env) (s : Shared) (H : Hp) (E : XK), Room lv (A.deeper (envOfC qual (defScope st) s.heap.objs.size f cdv)) →
      SSs (cxOf CX0 P w K mg base N qual (defScope st) f cdv A outer s H E).nox κ M rk (defBody st) wb)
    (math : ∀ ds Post, S ds Post → wb { nx := fun _ => Post .none ∧ rk = .fz, rt := fun d _ => Post d } (startE N.length ds)) (hv : 999 ∉ M := by decide) :
    FnOk P w K mg base CX0 (lv + 1) f fd ps (spOf K ms rk S) := by
  refine F.ok Sc (fun vs H Q E h => ?_) fun cdv A outer s H vs Q E hroom h => ?_
  · obtain ⟨O, P', ds, Post, _, _, ha, _⟩ := h
    rw [ha.len.1, hms]
  · obtain ⟨O, P', ds, Post, hO, hP, ha, hS, k⟩ := h
    refine ⟨_, body cdv A outer s H E hroom, ?_⟩
    have hl := ha.len
    have hle : ps.length ≤ N.length := by
      have := congrArg List.length Sc.pre
      rw [List.length_take] at this; omega
    have Fr0 : Frm K κ ⟨O, P', O, fun _ => none⟩ (startE N.length ds) (L2.start N vs) H := by
      refine ⟨by simp [startE, hκ]; omega, by simp [L2.start, hκ]; omega, fun i d e _ => ?_, fun i d e hs => absurd hs (start_ns hp skOf_ns hl.2 e), fun i j a (e : none = some a) => (nomatch e), fun i a (e : none = some a) => (nomatch e), hO, fun _ q => q, hP⟩
      unfold startE at e
      by_cases hi : i < ds.length
      · rw [List.getElem?_append_left (by simpa using hi)] at e
        rw [List.getElem?_map] at e
        cases q : ds[i]? with
        | none => rw [q] at e; cases e
        | some d' =>
          rw [q] at e
          have e' : d' = d := by simpa using e
          subst e'
          obtain ⟨v, m, h1, h2, h3⟩ := args_slot ha q
          refine ⟨v, ?_, ?_⟩
          · unfold L2.start
            rw [List.getElem?_append_left (by rw [List.length_map]; exact (List.getElem?_eq_some_iff.mp h1).1), List.getElem?_map, h1]
            rfl
          · have hk : kindOf κ i = skOf m := by
              unfold kindOf
              have : (κ.take ms.length)[i]? = some (skOf m) := by rw [hp, List.getElem?_map, h2]; rfl
              rw [List.getElem?_take] at this
              split at this
              · rw [this]; rfl
              · cases this
            rw [hk]
            have own : ∀ a, Rg.own ⟨O, P', O, fun _ => none⟩ a → O a := fun a q => q.elim id fun ⟨_, (e : none = some a)⟩ => nomatch e
            have up : ∀ {v d}, Rep K H O v d → Rep K H (Rg.own ⟨O, P', O, fun _ => none⟩) v d := fun r => r.keep (fun _ _ _ q => q) fun a q => .inl (own a q)
            cases m with
            | fz => exact up h3
            | rd =>
              rcases h3 with h3 | ⟨a, e1, np, ho, r⟩
              · exact .inl (up h3)
              · exact .inr ⟨a, e1, np, ho, r.keep (fun _ q => q) (fun _ _ _ q => q) fun a q => .inl (own a q)⟩
            | pl => exact h3
      · rw [List.getElem?_append_right (by simpa using hi)] at e
        rw [List.getElem?_replicate] at e
        split at e <;> cases e
    have nb : ∀ a, baseO κ ⟨O, P', O, fun _ => none⟩ a → O a := fun a q => q.elim id fun ⟨_, _, (e : none = some a)⟩ => nomatch e
    have ob : ∀ a, O a → baseO κ ⟨O, P', O, fun _ => none⟩ a := fun a q => .inl q
    have fin : ∀ {g' : Rg} {env' : En} {σ' : St} {H' : Hp} {v : V} {d : D}, Frm K κ g' env' σ' H' → SStep κ M ⟨O, P', O, fun _ => none⟩ g' H H' → ResR K κ rk ⟨O, P', O, fun _ => none⟩ H H' v d → Post d → Q v H' := by
      intro g' env' σ' H' v d F' s' r pd
      refine k v H' d pd (fun b o e np => s'.keep b o e np (fun _ _ (z : none = some b) => nomatch z) fun h => absurd h hv) (fun b p => s'.pool b p) ?_
      rcases hr with e | e <;> subst e
      · exact Rep.keep (fun _ _ _ q => q) (fun a q => .inl (ob a q)) r
      · obtain ⟨p, e1, n, r⟩ := r
        have n' : H p = none := n.elim id fun ⟨_, _, (z : none = some p)⟩ => nomatch z
        exact ⟨p, e1, n', r.keep (fun _ q => q) (fun _ _ _ q => q) fun a (q : O a ∨ a = p) => .inl (q.imp (ob a) id)⟩
    exact ⟨⟨O, P', O, fun _ => none⟩, startE N.length ds, _, Fr0, math ds Post hS, fun g' env' σ' H' F' s' ⟨pd, er⟩ => fin F' s' (by subst er; exact .non) pd, fun _ _ _ _ _ _ q => q.elim, fun _ _ _ _ _ _ q => q.elim,
      fun g' env' σ' H' v d F' s' r pd => fin F' s' r pd⟩
/-- the promise of the law: nothing is said of what it was handed -/
def spOfL (K : PySem.W.Frag) (ms : List PM) (k : RK) (S : FS) : Sp := fun vs H Q _ => ∃ (O P : Addr → Prop) (ds : List D) (Post : D → Prop),
  (∀ a, O a → Tk H a) ∧ (∀ a, P a → O a ∧ Pool H a) ∧ ArgsOk K H O P ms vs ds ∧ S ds Post ∧
  ∀ v H' d, Post d → (∀ b, P b → Pool H' b) → ResC K k H H' O v d → Q v H'
theorem fn_defL {x qual : Str} {st : Stmt} {f : Addr} {fd : FuncData} {N ps : List Str} {lv : Nat} {κ : List SK} {M : List Nat} {rk : RK} {S : FS} {wb : WS} (ms : List PM) (F : Fun K x qual st f fd) (Sc : FnScope N ps (defScope st)) (hκ : κ.length = N.length) (hms : ms.length = ps.length)
    (hp : κ.take ms.length = ms.map skOf) (hr : rk = .fz ∨ rk = .nw) (hq : ∀ i, kindOf κ i ≠ .q)
    (body : ∀ (cdv : Value) (A : Around) (outer : List Env) (s : Shared) (H : Hp) (E : XK), Room lv (A.deeper (envOfC qual (defScope st) s.heap.objs.size f cdv)) →
      SSs (cxOf CX0 P w K mg base N qual (defScope st) f cdv A outer s H E).nox κ M rk (defBody st) wb)
    (math : ∀ ds Post, S ds Post → wb { nx := fun _ => Post .none ∧ rk = .fz, rt := fun d _ => Post d } (startE N.length ds)) :
    FnOk P w K mg base CX0 (lv + 1) f fd ps (spOfL K ms rk S) := by
  refine F.ok Sc (fun vs H Q E h => ?_) fun cdv A outer s H vs Q E hroom h => ?_
  · obtain ⟨O, P', ds, Post, _, _, ha, _⟩ := h
    rw [ha.len.1, hms]
  · obtain ⟨O, P', ds, Post, hO, hP, ha, hS, k⟩ := h
    refine ⟨_, body cdv A outer s H E hroom, ?_⟩
    have hl := ha.len
    have hle : ps.length ≤ N.length := by
      have := congrArg List.length Sc.pre
      rw [List.length_take] at this; omega
    have Fr0 : Frm K κ ⟨O, P', O, fun _ => none⟩ (startE N.length ds) (L2.start N vs) H := by
      refine ⟨by simp [startE, hκ]; omega, by simp [L2.start, hκ]; omega, fun i d e _ => ?_, fun i d e hs => absurd hs (start_ns hp skOf_ns hl.2 e), fun i j a (e : none = some a) => (nomatch e), fun i a (e : none = some a) => (nomatch e), hO, fun _ q => q, hP⟩
      unfold startE at e
      by_cases hi : i < ds.length
      · rw [List.getElem?_append_left (by simpa using hi)] at e
        rw [List.getElem?_map] at e
        cases q : ds[i]? with
        | none => rw [q] at e; cases e
        | some d' =>
          rw [q] at e
          have e' : d' = d := by simpa using e
          subst e'
          obtain ⟨v, m, h1, h2, h3⟩ := args_slot ha q
          refine ⟨v, ?_, ?_⟩
          · unfold L2.start
            rw [List.getElem?_append_left (by rw [List.length_map]; exact (List.getElem?_eq_some_iff.mp h1).1), List.getElem?_map, h1]
            rfl
          · have hk : kindOf κ i = skOf m := by
              unfold kindOf
              have : (κ.take ms.length)[i]? = some (skOf m) := by rw [hp, List.getElem?_map, h2]; rfl
              rw [List.getElem?_take] at this
              split at this
              · rw [this]; rfl
              · cases this
            rw [hk]
            have own : ∀ a, Rg.own ⟨O, P', O, fun _ => none⟩ a → O a := fun a q => q.elim id fun ⟨_, (e : none = some a)⟩ => nomatch e
            have up : ∀ {v d}, Rep K H O v d → Rep K H (Rg.own ⟨O, P', O, fun _ => none⟩) v d := fun r => r.keep (fun _ _ _ q => q) fun a q => .inl (own a q)
            cases m with
            | fz => exact up h3
            | rd =>
              rcases h3 with h3 | ⟨a, e1, np, ho, r⟩
              · exact .inl (up h3)
              · exact .inr ⟨a, e1, np, ho, r.keep (fun _ q => q) (fun _ _ _ q => q) fun a q => .inl (own a q)⟩
            | pl => exact h3
      · rw [List.getElem?_append_right (by simpa using hi)] at e
        rw [List.getElem?_replicate] at e
        split at e <;> cases e
    have nb : ∀ a, baseO κ ⟨O, P', O, fun _ => none⟩ a → O a := fun a q => q.elim id fun ⟨_, _, (e : none = some a)⟩ => nomatch e
    have ob : ∀ a, O a → baseO κ ⟨O, P', O, fun _ => none⟩ a := fun a q => .inl q
    have fin : ∀ {g' : Rg} {env' : En} {σ' : St} {H' : Hp} {v : V} {d : D}, Frm K κ g' env' σ' H' → SStep κ M ⟨O, P', O, fun _ => none⟩ g' H H' → ResR K κ rk ⟨O, P', O, fun _ => none⟩ H H' v d → Post d → Q v H' := by
      intro g' env' σ' H' v d F' s' r pd
      refine k v H' d pd (fun b p => s'.pool b p) ?_
      rcases hr with e | e <;> subst e
      · exact Rep.keep (fun _ _ _ q => q) (fun a q => .inl (ob a q)) r
      · obtain ⟨p, e1, n, r⟩ := r
        have n' : H p = none := n.elim id fun ⟨_, _, (z : none = some p)⟩ => nomatch z
        exact ⟨p, e1, n', r.keep (fun _ q => q) (fun _ _ _ q => q) fun a (q : O a ∨ a = p) => .inl (q.imp (ob a) id)⟩
    exact ⟨⟨O, P', O, fun _ => none⟩, startE N.length ds, _, Fr0, math ds Post hS, fun g' env' σ' H' F' s' ⟨pd, er⟩ => fin F' s' (by subst er; exact .non) pd, fun _ _ _ _ _ _ q => q.elim, fun _ _ _ _ _ _ q => q.elim,
      fun g' env' σ' H' v d F' s' r pd => fin F' s' r pd⟩
end
theorem script_rep {K : PySem.W.Frag} {H : Hp} {a : Addr} {ns : List Int} (h : Rd H a (.lst (ns.map V.int))) (hl : ns.length ≤ 63) : ObjR K H (fun b => b = a) a (.list (ns.map .int)) :=
  .lst h (by rw [List.length_map, sizeLine_eq]; omega) (repInts ns)
theorem rd_tk {H : Hp} {a : Addr} {xs : List V} (h : Rd H a (.lst xs)) : Tk H a := by
  rcases h with h | ⟨o, h⟩
  · exact ⟨by rw [h]; simp, fun ys z => by rw [h] at z; cases z⟩
  · exact ⟨by rw [h]; simp, fun ys z => by rw [h] at z; cases z⟩
def lawS : FS := fun ds Post => ∃ ns : List Int, ds = [.list (ns.map .int)] ∧ ns.length ≤ 63 ∧ Post (.bool true)
end G7

set_option maxRecDepth 100000
namespace G7
open PySem PySem.Spec PyProof.Rows L2
theorem zcOf {cls : Value} {d : Option Addr} {o : Obj} (h : L2N.Zn cls d o) : L2.Zc cls d o := by first | exact h | exact h.zc
/-- a raised exception of a class, told in an answer's place; no value is told so -/
def exD (cn : Str) : D := .dict [(.none, .str cn)]
def wRaise (cn : Str) : WS := fun W e => W.rt (exD cn) e
def cSX (K : PySem.W.Frag) (mg : Str → Option Value) (κ : List SK) (M : List Nat) (k : RK) (Wx : WX) (w : WS) : TS := fun D σ H => ∃ g env W, Frm K κ g env σ H ∧ w W env ∧
  (∀ g' env' σ' H', Frm K κ g' env' σ' H' → SStep κ M g g' H H' → W.nx env' → D.nx σ' H') ∧
  (∀ g' env' σ' H', Frm K κ g' env' σ' H' → SStep κ M g g' H H' → W.bk env' → D.bk σ' H') ∧
  (∀ g' env' σ' H', Frm K κ g' env' σ' H' → SStep κ M g g' H H' → W.ct env' → D.ct σ' H') ∧
  (∀ g' env' σ' H' v d, Frm K κ g' env' σ' H' → SStep κ M g g' H H' → ResR K κ k g H H' v d → W.rt d env' → D.rt v H') ∧
  (∀ g' env' σ' H' cn C, Frm K κ g' env' σ' H' → SStep κ M g g' H H' → W.rt (exD cn) env' → mg cn = some (.ref C) → Wx (.ref C) none σ' H')
def SSX (X : Cx) (Wx : WX) (κ : List SK) (M : List Nat) (k : RK) (st : Stmt) (w : WS) : Prop := PS X st (cSX X.K X.mg κ M k Wx w)
def SSsX (X : Cx) (Wx : WX) (κ : List SK) (M : List Nat) (k : RK) (st : List Stmt) (w : WS) : Prop := PSs X st (cSX X.K X.mg κ M k Wx w)
section
variable {X : Cx} {Wx : WX} {κ : List SK} {M Me : List Nat} {k ke : RK} {st : Stmt} {sts : List Stmt} {e : Expr} {w wa : WE} {s t : WS} {pos : Pos}
theorem SSX.of {t' : TS} (h : PS X st t') (i : ∀ D σ H, cSX X.K X.mg κ M k Wx s D σ H → t' D σ H) : SSX X Wx κ M k st s := ⟨fun pins s0 σ H D I q => h.run pins s0 σ H D I (i D σ H q)⟩
theorem SSsX.of {t' : TS} (h : PSs X sts t') (i : ∀ D σ H, cSX X.K X.mg κ M k Wx s D σ H → t' D σ H) : SSsX X Wx κ M k sts s := ⟨fun pins s0 σ H D I q => h.run pins s0 σ H D I (i D σ H q)⟩
/-- what does not raise -/
theorem SSsX.thru (h : SSs X.nox κ M k sts s) : SSsX X Wx κ M k sts s :=
  SSsX.of (PSs.nox h) fun D σ H ⟨g, env, W, F, hw, n, b, c, r, _⟩ => ⟨g, env, W, F, hw, n, b, c, r⟩
theorem cSX.go {K : PySem.W.Frag} {mg : Str → Option Value} {g g1 : Rg} {env1 : En} {σ1 : St} {H H1 : Hp} {W1 : WD} (F1 : Frm K κ g1 env1 σ1 H1) (s1 : SStep κ M g g1 H H1) (hw : s W1 env1) {D' : Ends}
    (n : ∀ g' env' σ' H', Frm K κ g' env' σ' H' → SStep κ M g g' H H' → W1.nx env' → D'.nx σ' H') (b : ∀ g' env' σ' H', Frm K κ g' env' σ' H' → SStep κ M g g' H H' → W1.bk env' → D'.bk σ' H')
    (c : ∀ g' env' σ' H', Frm K κ g' env' σ' H' → SStep κ M g g' H H' → W1.ct env' → D'.ct σ' H') (r : ∀ g' env' σ' H' v d, Frm K κ g' env' σ' H' → SStep κ M g g' H H' → ResR K κ k g H H' v d → W1.rt d env' → D'.rt v H')
    (x : ∀ g' env' σ' H' cn C, Frm K κ g' env' σ' H' → SStep κ M g g' H H' → W1.rt (exD cn) env' → mg cn = some (.ref C) → Wx (.ref C) none σ' H') : cSX K mg κ M k Wx s D' σ1 H1 :=
  ⟨g1, env1, W1, F1, hw, fun g' env' σ' H' F' s' => n g' env' σ' H' F' (s1.trans s'), fun g' env' σ' H' F' s' => b g' env' σ' H' F' (s1.trans s'), fun g' env' σ' H' F' s' => c g' env' σ' H' F' (s1.trans s'),
    fun g' env' σ' H' v d F' s' rr => r g' env' σ' H' v d F' (s1.trans s') (rr.back s1), fun g' env' σ' H' cn C F' s' => x g' env' σ' H' cn C F' (s1.trans s')⟩
theorem sssx_cons (h1 : SSX X Wx κ M k st s) (h2 : SSsX X Wx κ M k sts t) : SSsX X Wx κ M k (st :: sts) (wSeq s t) :=
  SSsX.of (pss_cons h1 h2) fun D σ H ⟨g, env, W, F, hw, n, b, c, r, x⟩ => ⟨g, env, _, F, hw, fun g' env' σ' H' F' s' w' => cSX.go (K := X.K) (g := g) (H := H) (W1 := W) (D' := D) F' s' w' n b c r x, b, c, r, x⟩
theorem sssx_one (h1 : SSX X Wx κ M k st s) : SSsX X Wx κ M k [st] s := SSsX.of (pss_one h1) fun _ _ _ q => q
theorem sssx_nil : SSsX X Wx κ M k [] wNil := SSsX.of pss_nil fun D σ H ⟨g, env, W, F, hw, n, _⟩ => n g env σ H F (.refl F) hw
theorem ssx_if {c : Expr} {a b : List Stmt} {wt : WT} (hc : ST X.nox κ Me c wt) (ha : SSsX X Wx κ M k a s) (hb : SSsX X Wx κ M k b t) (sub : ∀ i ∈ Me, i ∈ M := by decide) : SSX X Wx κ M k (.If c a b pos) (wIf wt s t) :=
  SSX.of (ps_if (PT.nox hc) ha hb) fun D σ H ⟨g, env, W, F, hw, n, b, c, r, x⟩ => ⟨g, env, _, F, hw, fun y H1 g1 e1 F1 s1 w1 => by
    have s1' := (s1.mono sub).toS F F1
    cases y with
    | true => exact cSX.go (K := X.K) (g := g) (H := H) (W1 := W) (D' := D) F1 s1' w1 n b c r x
    | false => exact cSX.go (K := X.K) (g := g) (H := H) (W1 := W) (D' := D) F1 s1' w1 n b c r x⟩
/-- raise X('..') -/
theorem ssx_raise {C : Addr} {cn : Str} {e : Expr} (hc : X.calm = true) (tk : L2N.Takes X Wx) (he : L2N.PMk X e (fun _ H Q => Q (.ref C) none H)) (hm : X.mg cn = some (.ref C)) : SSX X Wx κ M k (.Raise (some e) none pos) (wRaise cn) :=
  SSX.of (L2N.ps_raise hc tk he) fun D σ H ⟨g, env, W, F, hw, n, b, c, r, x⟩ => x g env σ H cn C F (.refl F) hw hm
theorem PA.nox {es : List Expr} {t : TA} (h : PA X.nox es t) : PA X es t := ⟨fun p pins s σ H Q I hw =>
  wpAny_mono (h.run p pins s σ H Q (I.wish _) hw) (fun _ _ ⟨v, H', I', r, q⟩ => ⟨v, H', I'.unwish, r, q⟩) fun _ _ z => False.elim z⟩
def cEX (K : PySem.W.Frag) (mg : Str → Option Value) (κ : List SK) (M : List Nat) (k : RK) (Wx : WX) (w : WE) : TE := fun σ H Q => ∃ g env W, Frm K κ g env σ H ∧ w env W ∧
  (∀ v H' g' env' d, Frm K κ g' env' σ H' → EStep M g g' H H' → Res K g' k H H' v d → W d env' → Q v H') ∧
  (∀ H' g' env' cn C, Frm K κ g' env' σ H' → EStep M g g' H H' → W (exD cn) env' → mg cn = some (.ref C) → Wx (.ref C) none σ H')
def SEX (X : Cx) (Wx : WX) (κ : List SK) (M : List Nat) (k : RK) (e : Expr) (w : WE) : Prop := PE X e (cEX X.K X.mg κ M k Wx w)
theorem SEX.of {t : TE} (h : PE X e t) (s : ∀ σ H Q, cEX X.K X.mg κ M k Wx w σ H Q → t σ H Q) : SEX X Wx κ M k e w := ⟨fun pins s0 σ H Q I q => h.run pins s0 σ H Q I (s σ H Q q)⟩
/-- the promise of a def that may raise -/
def spOfX (K : PySem.W.Frag) (mg : Str → Option Value) (ms : List PM) (k : RK) (S : FS) : Sp := fun vs H Q E => ∃ (O P : Addr → Prop) (ds : List D) (Post : D → Prop),
  (∀ a, O a → Tk H a) ∧ (∀ a, P a → O a ∧ Pool H a) ∧ ArgsOk K H O P ms vs ds ∧ S ds Post ∧
  (∀ v H' d, Post d → (∀ b o, H b = some o → ¬ P b → H' b = some o) → (∀ b, P b → Pool H' b) → ResC K k H H' O v d → Q v H') ∧
  (∀ cn C H', Post (exD cn) → mg cn = some (.ref C) → (∀ b o, H b = some o → ¬ P b → H' b = some o) → (∀ b, P b → Pool H' b) → E (.ref C) none H')
theorem kD_some (k : Key) : kD k ≠ .none := by cases k <;> simp [kD]
theorem Rep.noEx {K : PySem.W.Frag} {H : Hp} {S : Addr → Prop} {v : V} {cn : Str} (r : Rep K H S v (exD cn)) : False := by
  unfold exD at r
  generalize hd : PyData.dict [(.none, .str cn)] = d at r
  cases r with
  | @dK a kvs ds n h al =>
    cases kvs with
    | nil => simp at hd
    | cons q kvs =>
      cases ds with
      | nil => simp at hd
      | cons y ds =>
        simp only [List.map_cons, List.zip_cons_cons, PyData.dict.injEq, List.cons.injEq, Prod.mk.injEq] at hd
        exact kD_some _ hd.1.1.symm
  | dT n h al => simp at hd
  | xt n r e z al => simp at hd
  | _ => cases hd
end
section
variable {P : Program} {w : World} {K : PySem.W.Frag} {mg : Str → Option Value} {base : Heap}
/-- a def's promise by its body -/
theorem okC {CX : CXT} {x qual : Str} {st : Stmt} {f : Addr} {fd : FuncData} {N ps : List Str} {k : Nat} {sp : Sp} (F : Fun K x qual st f fd) (S : FnScope N ps (defScope st)) (len : ∀ vs H Q E, sp vs H Q E → vs.length = ps.length)
    (hbody : ∀ (cdv : Value) (A : Around) (outer : List Env) (s : Shared) (H : Hp) (vs : List V) (Q : VK) (E : XK), Room k (A.deeper (envOfC qual (defScope st) s.heap.objs.size f cdv)) → sp vs H Q E →
      ∃ t, PSs (cxOf CX P w K mg base N qual (defScope st) f cdv A outer s H E) (defBody st) t ∧ t { nx := fun _ H' => Q .non H', rt := Q } (L2.start N vs) H) : FnOk P w K mg base CX (k + 1) f fd ps sp := by
  obtain ⟨_, _, _, _, _, _, _, _, _, rfl, lk, hc⟩ := F.ex
  exact fn_of lk hc S len fun A outer s H vs Q E r q => hbody _ A outer s H vs Q E r q
/-- a def that may raise, by its body -/
theorem fn_defX {x qual : Str} {st : Stmt} {f : Addr} {fd : FuncData} {N ps : List Str} {lv : Nat} {κ : List SK} {M : List Nat} {rk : RK} {S : FS} {wb : WS} (ms : List PM) (F : Fun K x qual st f fd) (Sc : FnScope N ps (defScope st)) (hκ : κ.length = N.length) (hms : ms.length = ps.length)
    (hp : κ.take ms.length = ms.map skOf) (hr : rk = .fz ∨ rk = .nw) (hq : ∀ i, kindOf κ i ≠ .q)
    (body : ∀ (cdv : Value) (A : Around) (outer : List Env) (s : Shared) (H : Hp) (E : XK), Room lv (A.deeper (envOfC qual (defScope st) s.heap.objs.size f cdv)) →
      SSsX (cxOf (L2N.CX P w) P w K mg base N qual (defScope st) f cdv A outer s H E) (fun cls d _ H' => E cls d H') κ M rk (defBody st) wb)
    (math : ∀ ds Post, S ds Post → wb { nx := fun _ => Post .none ∧ rk = .fz, rt := fun d _ => Post d } (startE N.length ds)) (hv : 999 ∉ M := by decide) :
    FnOk P w K mg base (L2N.CX P w) (lv + 1) f fd ps (spOfX K mg ms rk S) := by
  refine okC F Sc (fun vs H Q E h => ?_) fun cdv A outer s H vs Q E hroom h => ?_
  · obtain ⟨O, P', ds, Post, _, _, ha, _⟩ := h
    rw [ha.len.1, hms]
  · obtain ⟨O, P', ds, Post, hO, hP, ha, hS, k, kx⟩ := h
    refine ⟨_, body cdv A outer s H E hroom, ?_⟩
    have hl := ha.len
    have hle : ps.length ≤ N.length := by
      have := congrArg List.length Sc.pre
      rw [List.length_take] at this; omega
    have Fr0 : Frm K κ ⟨O, P', O, fun _ => none⟩ (startE N.length ds) (L2.start N vs) H := by
      refine ⟨by simp [startE, hκ]; omega, by simp [L2.start, hκ]; omega, fun i d e _ => ?_, fun i d e hs => absurd hs (start_ns hp skOf_ns hl.2 e), fun i j a (e : none = some a) => (nomatch e), fun i a (e : none = some a) => (nomatch e), hO, fun _ q => q, hP⟩
      unfold startE at e
      by_cases hi : i < ds.length
      · rw [List.getElem?_append_left (by simpa using hi)] at e
        rw [List.getElem?_map] at e
        cases q : ds[i]? with
        | none => rw [q] at e; cases e
        | some d' =>
          rw [q] at e
          have e' : d' = d := by simpa using e
          subst e'
          obtain ⟨v, m, h1, h2, h3⟩ := args_slot ha q
          refine ⟨v, ?_, ?_⟩
          · unfold L2.start
            rw [List.getElem?_append_left (by rw [List.length_map]; exact (List.getElem?_eq_some_iff.mp h1).1), List.getElem?_map, h1]
            rfl
          · have hk : kindOf κ i = skOf m := by
              unfold kindOf
              have : (κ.take ms.length)[i]? = some (skOf m) := by rw [hp, List.getElem?_map, h2]; rfl
              rw [List.getElem?_take] at this
              split at this
              · rw [this]; rfl
              · cases this
            rw [hk]
            have own : ∀ a, Rg.own ⟨O, P', O, fun _ => none⟩ a → O a := fun a q => q.elim id fun ⟨_, (e : none = some a)⟩ => nomatch e
            have up : ∀ {v d}, Rep K H O v d → Rep K H (Rg.own ⟨O, P', O, fun _ => none⟩) v d := fun r => r.keep (fun _ _ _ q => q) fun a q => .inl (own a q)
            cases m with
            | fz => exact up h3
            | rd =>
              rcases h3 with h3 | ⟨a, e1, np, ho, r⟩
              · exact .inl (up h3)
              · exact .inr ⟨a, e1, np, ho, r.keep (fun _ q => q) (fun _ _ _ q => q) fun a q => .inl (own a q)⟩
            | pl => exact h3
      · rw [List.getElem?_append_right (by simpa using hi)] at e
        rw [List.getElem?_replicate] at e
        split at e <;> cases e
    have nb : ∀ a, baseO κ ⟨O, P', O, fun _ => none⟩ a → O a := fun a q => q.elim id fun ⟨_, _, (e : none = some a)⟩ => nomatch e
    have ob : ∀ a, O a → baseO κ ⟨O, P', O, fun _ => none⟩ a := fun a q => .inl q
    have fin : ∀ {g' : Rg} {env' : En} {σ' : St} {H' : Hp} {v : V} {d : D}, Frm K κ g' env' σ' H' → SStep κ M ⟨O, P', O, fun _ => none⟩ g' H H' → ResR K κ rk ⟨O, P', O, fun _ => none⟩ H H' v d → Post d → Q v H' := by
      intro g' env' σ' H' v d F' s' r pd
      refine k v H' d pd (fun b o e np => s'.keep b o e np (fun _ _ (z : none = some b) => nomatch z) fun h => absurd h hv) (fun b p => s'.pool b p) ?_
      rcases hr with e | e <;> subst e
      · exact Rep.keep (fun _ _ _ q => q) (fun a q => .inl (ob a q)) r
      · obtain ⟨p, e1, n, r⟩ := r
        have n' : H p = none := n.elim id fun ⟨_, _, (z : none = some p)⟩ => nomatch z
        exact ⟨p, e1, n', r.keep (fun _ q => q) (fun _ _ _ q => q) fun a (q : O a ∨ a = p) => .inl (q.imp (ob a) id)⟩
    exact ⟨⟨O, P', O, fun _ => none⟩, startE N.length ds, _, Fr0, math ds Post hS, fun g' env' σ' H' F' s' ⟨pd, er⟩ => fin F' s' (by subst er; exact .non) pd, fun _ _ _ _ _ _ q => q.elim, fun _ _ _ _ _ _ q => q.elim,
      fun g' env' σ' H' v d F' s' r pd => fin F' s' r pd, fun g' env' σ' H' cn C F' s' pd hC => kx cn C H' pd hC (fun b o e np => s'.keep b o e np (fun _ _ (z : none = some b) => nomatch z) fun h => absurd h hv) (fun b p => s'.pool b p)⟩
end
section
variable {X : Cx} {κ : List SK} {M : List Nat}
theorem takes_no {X : Cx} : L2N.Takes X.nox (fun _ _ _ _ => False) := fun u s' ⟨_, _, _, _, _, _, _, _, _, _, _, _, _, _, _, _, h⟩ => h.elim
end
end G7

set_option maxRecDepth 100000
namespace G7
open PySem PySem.Spec PyProof.Rows L2
/-- the slot's thing as kept -/
def toF : Nat → En → En
  | 0, some d :: e => some (.tuple [d]) :: e
  | n + 1, x :: e => x :: toF n e
  | _, e => e
def NT (d : D) : Prop := ∀ d', d ≠ .tuple [d']
theorem nt_l {xs : List D} : NT (.list xs) := fun _ h => by cases h
theorem nt_d {xs : List (D × D)} : NT (.dict xs) := fun _ h => by cases h
def ownE (i : Nat) (e : En) : Prop := ∀ d, e[i]? = some (some d) → NT d
/-- s, the slot being own -/
def wAsO (i : Nat) (s : WS) : WS := fun W e => ownE i e ∧ s W e
def WD.wrap (W : WD) (i : Nat) : WD := ⟨fun e => W.nx (toF i e), fun d e => W.rt d (toF i e), fun e => W.bk (toF i e), fun e => W.ct (toF i e)⟩
/-- s, the slot being told for good -/
def wAsV (i : Nat) (s : WS) : WS := fun W e => ∃ d, e[i]? = some (some (.tuple [d])) ∧ s (W.wrap i) (e.set i (some d))
/-- the slot's thing is nobody's own from here on -/
def wFrz (i : Nat) (s : WS) : WS := fun W e => ∃ d, e[i]? = some (some d) ∧ NT d ∧ s W (e.set i (some (.tuple [d])))

section
variable {K : PySem.W.Frag} {κ : List SK} {g g' : Rg} {env env' : En} {σ : St} {H H' : Hp} {M : List Nat} {i j : Nat} {v : V} {d : D} {k : RK} {x : SK}
theorem kind_lt (hk : kindOf κ i = .f) : i < κ.length := by
  apply Classical.byContradiction
  intro c
  unfold kindOf at hk
  rw [List.getElem?_eq_none (by omega)] at hk
  cases hk
theorem kind_ne (h : j ≠ i) : kindOf (κ.set i x) j = kindOf κ j := by
  unfold kindOf
  rw [List.getElem?_set_ne fun c => h c.symm]
theorem SStep.kind (h : SStep (κ.set i x) M g g' H H') (hk : kindOf κ i = .f) : SStep κ M g g' H H' := by
  have kk : ∀ j, (kindOf (κ.set i x) j = .o ∨ kindOf (κ.set i x) j = .f) → (kindOf κ j = .o ∨ kindOf κ j = .f) := fun j kj => by
    by_cases c : j = i
    · exact .inr (by rw [c]; exact hk)
    · rw [kind_ne c] at kj; exact kj
  refine ⟨h.pu, h.pd, h.up, h.dn, fun b a e => (h.al b a e).imp id (Or.imp (fun ⟨j, hj, kj, z⟩ => ⟨j, hj, kk j kj, z⟩) id), h.I, fun j q => h.qs j ?_, h.keep, h.th, h.pool, fun j a hj e => h.st j a ⟨hj.1, by rw [kind_ne fun c => hj.2.2 (by rw [c]; exact hk)]; exact hj.2.1, by rw [kind_ne fun c => hj.2.2 (by rw [c]; exact hk)]; exact hj.2.2⟩ e⟩
  rw [kind_ne fun c => by rw [c, hk] at q; exact absurd q (by decide)]
  exact q
theorem ResR.kind (r : ResR K (κ.set i x) k g H H' v d) (hk : kindOf κ i = .f) (hx : x = .o ∨ x = .v) : ResR K κ k g H H' v d := by
  have hb : ∀ a, baseO κ g a → baseO (κ.set i x) g a := fun a q => q.imp id fun ⟨j, hj, e⟩ => ⟨j, hj.imp (fun hj => by rw [kind_ne fun c => by rw [c, hk] at hj; cases hj]; exact hj) (fun hj => ⟨hj.1, by rw [kind_ne fun c => hj.2.2 (by rw [c]; exact hk)]; exact hj.2.1, by rw [kind_ne fun c => hj.2.2 (by rw [c]; exact hk)]; exact hj.2.2⟩), e⟩
  have less : ∀ {v d}, Rep K H' (baseO (κ.set i x) g) v d → Rep K H' (baseO κ g) v d := fun r => r.keep (fun _ _ _ q => q) fun a q => .inl (hb a q)
  cases k with
  | nw =>
    obtain ⟨p, rfl, n, r⟩ := r
    refine ⟨p, rfl, n.imp id fun ⟨j, hj, e⟩ => ⟨j, ?_, e⟩, r.keep (fun _ q => q) (fun _ _ _ q => q) fun a q => .inl (q.imp (hb a) id)⟩
    by_cases c : j = i
    · subst c; exact .inr hk
    · rw [kind_ne c] at hj; exact hj
  | fz => exact less r
  | rd => exact less r
  | ow i => exact less r
  | pl => exact less r
  | np => exact less r
/-- the frame with the slot's thing let go -/
theorem Frm.frz (F : Frm K κ g env σ H) (hk : kindOf κ i = .f) (e0 : env[i]? = some (some d)) (nt : NT d) : ∃ g', Frm K κ g' (env.set i (some (.tuple [d]))) σ H ∧ SStep κ M g g' H H := by
  obtain ⟨v0, ev0, s0⟩ := F.ev i d e0
  rw [hk] at s0
  rcases s0 with ⟨p, rfl, ep, r⟩ | ⟨d', e', _⟩
  · have own : ∀ a, Rg.own ⟨g.O, g.P, g.I, fun j => if j = i then none else g.al j⟩ a → g.own a := fun a q => by
      rcases q with q | ⟨j, q⟩
      · exact .inl q
      · simp only at q
        split at q
        · cases q
        · exact .inr ⟨j, q⟩
    have np : ¬ Rg.own ⟨g.O, g.P, g.I, fun j => if j = i then none else g.al j⟩ p := fun q => by
      rcases q with q | ⟨j, q⟩
      · exact (F.alo i p ep).1 q
      · simp only at q
        split at q
        · cases q
        · next c => exact c (F.inj j i p q ep)
    refine ⟨⟨g.O, g.P, g.I, fun j => if j = i then none else g.al j⟩, ⟨by simp [F.ln], F.sl, fun j d' e hs => ?_, fun j d' e hs => ?_, fun j j' a e e' => ?_, fun j a e => ?_, F.ot', F.il, F.pl⟩, ⟨fun _ q => q, fun _ q => .inl q, fun _ q => q, fun _ q => .inl q, fun j a e => ?_, rfl, fun j q => ?_, fun _ _ q _ _ _ => q, fun _ q => q, fun b q => (F.pl b q).2, fun j a hj e => ?_⟩⟩
    rotate_left 1
    · have hji : j ≠ i := fun c => by rw [c, hk] at hs; cases hs
      rw [List.getElem?_set_ne fun c => hji c.symm] at e
      refine (F.gh j d' e hs).same (fun k _ hv => ?_) own
      have : k ≠ i := fun c => by rw [c, hk] at hv; cases hv
      simp [this]
    rotate_right 1
    · by_cases hj : j = i
      · subst hj
        rw [List.getElem?_set_self (by rw [F.ln]; exact kind_lt hk)] at e
        cases e
        refine ⟨_, ev0, ?_⟩
        rw [hk]
        exact .inr ⟨d, rfl, (r.keep (fun _ q => q) (fun _ _ _ q => q) fun a q => .inl (own a q)).rep np⟩
      · rw [List.getElem?_set_ne fun c => hj c.symm] at e
        obtain ⟨v', e1, s'⟩ := F.ev j d' e
        refine ⟨v', e1, ?_⟩
        cases hkj : kindOf κ j <;> rw [hkj] at s' <;> unfold SlotK at s' ⊢ <;> simp only at s' ⊢
        · exact s'
        · exact Rep.keep (fun _ _ _ q => q) (fun a q => .inl (own a q)) s'
        · rcases s' with s' | ⟨a, rfl, np, na, s'⟩
          · exact .inl (Rep.keep (fun _ _ _ q => q) (fun a q => .inl (own a q)) s')
          · exact .inr ⟨a, rfl, np, na, s'.keep (fun _ q => q) (fun _ _ _ q => q) fun a q => .inl (own a q)⟩
        · obtain ⟨a, rfl, ea, s'⟩ := s'
          exact ⟨a, rfl, by simp [hj, ea], s'.keep (fun _ q => q) (fun _ _ _ q => q) fun a q => .inl (own a q)⟩
        · obtain ⟨a, rfl, ea, s'⟩ := s'
          exact ⟨a, rfl, by simp [hj, ea], s'.keep (fun _ q => q) (fun _ _ _ q => q) fun a q => .inl (own a q)⟩
        · obtain ⟨a, rfl, ea, s'⟩ := s'
          exact ⟨a, rfl, by simp [hj, ea], s'.keep (fun _ q => q) (fun _ _ _ q => q) fun a q => .inl (own a q)⟩
        · obtain ⟨a, rfl, s'⟩ := s'
          exact ⟨a, rfl, s'.keep (fun _ _ _ q => q) fun a q => .inl (own a q)⟩
        · exact s'
        · rcases s' with ⟨a, rfl, ea, s'⟩ | ⟨d', e', s'⟩
          · exact .inl ⟨a, rfl, by simp [hj, ea], s'.keep (fun _ q => q) (fun _ _ _ q => q) fun a q => .inl (own a q)⟩
          · exact .inr ⟨d', e', Rep.keep (fun _ _ _ q => q) (fun a q => .inl (own a q)) s'⟩
        · exact s'
        · exact HsAt.keep s' (fun _ _ _ q => q) (fun a q => .inl (own a q))
    · simp only at e e'
      split at e
      · cases e
      · split at e'
        · cases e'
        · exact F.inj j j' a e e'
    · simp only at e
      split at e
      · cases e
      · exact F.alo' j a e
    · simp only at e
      split at e
      · cases e
      · exact .inl e
    · have : j ≠ i := fun c => by rw [c, hk] at q; cases q
      simp [this]
    · have : j ≠ i := fun c => hj.2.2 (by rw [c]; exact hk)
      simp [this, e]
  · exact absurd e' (nt d')
end
end G7

set_option maxRecDepth 100000
namespace G7
open PySem PySem.Spec PyProof.Rows L2

/-- a def as its callers use it -/
structure FnB (P : Program) (w : World) (K : PySem.W.Frag) (mg : Str → Option Value) (base : Heap) (lv : Nat) (x : Str) (ps : List Str) (ms : List PM) (k : RK) (S : FS) : Prop where
  ex : ∃ f fd, FnOk P w K mg base CX0 lv f fd ps (spOf K ms k S) ∧ mg x = some (.ref f) ∧ PySem.W.keepIn K (.ref f) = true ∧ L2.Binds K fd ps []
section
variable {X : Cx} {κ : List SK} {M Me : List Nat} {k rk ka kb : RK} {pos : Pos} {a b e : Expr} {w wa wb : WE}
theorem se_fn {lv lc : Nat} {ps : List Str} {ms : List PM} {S : FS} {x : Str} {p : Pos} {e : Expr} {es : List Expr} {ks : List RK} {wl : WA} (G : FnB X.prog X.w X.K X.mg X.base lc x ps ms k S) (hr : Room lv X.A) (hg : Gl X x) (ha : SA X κ M ks (e :: es) wl) (hl : lc ≤ lv := by decide)
    (hp : passA ks ms = true := by rfl) (kk : k = .fz ∨ k = .nw := by first | exact .inl rfl | exact .inr rfl) (hdb : (x == ("__debug__" : Str)) = false := by decide)
    (he : starEach (e :: es) X.env = (false, eval e X.env) :: starEach es X.env := by rfl) (hpl : (backTo pos (starEach es X.env)).any (·.1) = false := by rfl) : SE X κ M k (.Call (.Name x p) (e :: es) [] pos) (wCall S wl) := by
  obtain ⟨f, fd, F, hm, hk, hb⟩ := G.ex
  exact se_call F (hr.mono hl) hg hm hk hb ha hp kk hdb he hpl
theorem se_fn0 {lv lc : Nat} {ps : List Str} {S : FS} {x : Str} {p : Pos} (G : FnB X.prog X.w X.K X.mg X.base lc x ps [] k S) (hr : Room lv X.A) (hg : Gl X x) (hl : lc ≤ lv := by decide) (kk : k = .fz ∨ k = .nw := by first | exact .inl rfl | exact .inr rfl) (hdb : (x == ("__debug__" : Str)) = false := by decide) :
    SE X κ M k (.Call (.Name x p) [] [] pos) (wCall S waNil) := by
  obtain ⟨f, fd, F, hm, hk, hb⟩ := G.ex
  exact se_call0 F (hr.mono hl) hg hm hk hb kk hdb
/-- a new list of three ints is handed over as a pool -/
def wNp (a : WE) : WE := fun e Q => a e fun d e1 => ∃ x y z : Int, d = .list [.int x, .int y, .int z] ∧ Q .none e1
theorem noq {κ : List SK} (h : κ.all (· != .q) = true) (i : Nat) : kindOf κ i ≠ .q := by
  unfold kindOf
  cases e : κ[i]? with
  | none => simp
  | some k =>
    have := List.all_eq_true.mp h k (List.mem_of_getElem? e)
    simpa using this
theorem room65 {lv : Nat} {A : Around} (hr : Room lv A) : A.units + 65 < cLine := by have := hr.un; omega
def rRepR : R2 := fun x y H Q => ∃ l k xs, x = .ref l ∧ y = .int k ∧ Rd H l (.lst xs) ∧ -(2 ^ 63) ≤ k ∧ k < 2 ^ 63 ∧ xs.length * k.toNat ≤ sizeLine ∧ ∀ p, H p = none → Q (.ref p) (upd H p (.lst (List.replicate k.toNat xs).flatten))
theorem op_repR : OpR X (binaryOp .Mult) rRepR := by
  intro pins s σ H x y v u Q I rx ry h
  obtain ⟨l, k, xs, rfl, rfl, hH, h1, h2, hz, q⟩ := h
  cases rx
  obtain ⟨t, rfl⟩ := ry
  obtain ⟨z, its, n, r, e⟩ := hH.ok I.hok
  have hl := r.length
  have hlen : its.toArray.size * k.toNat ≤ sizeLine := by rw [List.size_toArray, ← hl]; exact hz
  have hcap : ¬ its.toArray.size * k.toNat > (2 ^ 63 - 1) / 8 := by
    have : (sizeLine : Nat) ≤ (2 ^ 63 - 1) / 8 := by decide
    omega
  have hfit : ¬ (!Builtin.List.listFitsIndex k) = true := by
    rw [fitsIndex_both h1 h2]
    exact Bool.false_ne_true
  have hlong : ¬ Builtin.List.listTooLong (its.toArray.size * k.toNat) = true := by
    rw [notLongL hlen]
    exact Bool.false_ne_true
  have hnew : List.foldl (fun x1 x2 => x1 ++ x2) #[] (List.replicate (if its.toArray.isEmpty = true then 0 else k.toNat) its.toArray) = (List.replicate k.toNat its).flatten.toArray := by
    have f0 : ∀ m : Nat, List.foldl (fun x1 x2 => x1 ++ x2) #[] (List.replicate m its.toArray) = (List.replicate m its).flatten.toArray := fun m => by
      have := foldl_rep its m []
      rw [List.nil_append] at this
      exact this
    rw [f0]
    cases its with
    | nil => simp
    | cons a r' => rw [if_neg (by simp)]
  refine wpAny_binaryOp_repeat_ref (T := "list") (U := "int") (by decide) ⟨_, e, rfl⟩ (fun s' => typeIs_int s' k t) noFill_list_mul F.fills_int_mul F.slot_int_rmul repeat_list F.slot_int_index.lookup
    (call_meets F.slot_int_rmul (typeIs_int s k t) F.entry_int_rmul (F.args_int_rmul_2 _ _) (int___rmul___int_list k t l its.toArray n)
      ⟨e, rfl, ⟨_, e, rfl⟩, call_meets F.slot_list_mul ⟨_, e, rfl⟩ F.entry_list_mul (F.args_list_mul_2 _ _) (AutoListH.list___mul___list_int_3 l its.toArray n k t hfit hcap hlong) ⟨e, ?_⟩⟩)
  rw [hnew]
  exact ⟨.ref _, _, I.lnew (t' := s.toks) (r.rep k.toNat) (by rw [PyProof.Rows.lm_len_rep_flat, Nat.mul_comm]; exact hz), rfl, q _ I.fresh⟩
def repLD : D → D → Option D
  | .list a, .int k => if a.length ≤ 1000 ∧ -1000 ≤ k ∧ k ≤ 1000 then some (.list (List.replicate k.toNat a).flatten) else none
  | _, _ => none
theorem od_rep {K : PySem.W.Frag} : OpD K rRepR repLD .nw := by
  intro κ g env σ H x y dx dy dz Q F rx ry e h
  match dx, dy, e, rx, ry with
  | .list ds, .int m, e, rx, ry =>
    simp only [repLD] at e
    split at e
    · rename_i hl
      cases e
      obtain ⟨a, xs, rfl, ra, za, la⟩ := rx.toLst
      rw [ry.toInt]
      obtain ⟨h1, h2, h3⟩ := hl
      rw [← la.length] at h1
      have hz : xs.length * m.toNat ≤ sizeLine := Nat.le_trans (Nat.mul_le_mul h1 (show m.toNat ≤ 1000 by omega)) (by rw [sizeLine_eq]; decide)
      exact ⟨a, m, xs, rfl, rfl, ra, by omega, by omega, hz, fun p np => ok_lstN F (la.rep _) (by rw [PyProof.Rows.lm_len_rep_flat, Nat.mul_comm]; exact hz) np h⟩
    · cases e
def mulID : D → D → Option D
  | .int i, .int j => if okMul i j = true then some (.int (i * j)) else none
  | _, _ => none
theorem od_mulI {K : PySem.W.Frag} : OpD K (rI CMul fun i j => .int (i * j)) mulID .fz := by
  intro κ g env σ H x y dx dy dz Q F rx ry e h
  cases dx <;> cases dy <;> simp only [mulID] at e <;> first
    | (split at e
       · rename_i hm
         cases e; rw [rx.toInt, ry.toInt]; exact ⟨_, _, rfl, rfl, by simpa [okMul, CMul] using hm, ok_same F (.int _) h⟩
       · cases e)
    | cases e
def wLstRg (it : WI) : WE := fun e Q => it e fun xs e1 => Q (.list xs) e1
def wPlIx (i : Nat) : WE := fun e Q => e[i]? = some (some .none) ∧ ∀ x : Int, Q (.int x) e
theorem se_plix {i : Nat} {x : Str} {px p2 : Pos} {c : Int} {j : Nat} (ho : PE X (.Name x px) (tVar i)) (hk : kindOf κ i = .p) (hc : c = 0 ∨ c = 1 ∨ c = 2 := by decide) (hx : PlainIx (.Constant (.int c) j p2) := by exact fun _ _ => rfl) : SE X κ M .fz (.Subscript (.Name x px) (.Constant (.int c) j p2) pos) (wPlIx i) :=
  SE.of (pe_ix ix_list ho pe_int hx) fun σ H Q ⟨g, env, W, F, ⟨he, hw⟩, post⟩ => by
    obtain ⟨v, sv, sl⟩ := F.ev i _ he
    rw [hk] at sl
    obtain ⟨q, rfl, hp, _⟩ := sl
    obtain ⟨_, x0, x1, x2, hH⟩ := F.pl q hp
    have fin : ∀ y : Int, Q (.int y) H := fun y => post _ H g env _ F .refl (.int y) (hw y)
    rcases hc with rfl | rfl | rfl
    · exact ⟨_, sv, q, _, 0, .int x0, rfl, rfl, .inl (.inl hH), rfl, fin x0⟩
    · exact ⟨_, sv, q, _, 1, .int x1, rfl, rfl, .inl (.inl hH), rfl, fin x1⟩
    · exact ⟨_, sv, q, _, 2, .int x2, rfl, rfl, .inl (.inl hH), rfl, fin x2⟩
def wPlSet (i : Nat) (a : WE) : WS := fun W e => a e fun d e1 => ∃ y : Int, d = .int y ∧ e1[i]? = some (some .none) ∧ W.nx e1
theorem Frm.poolSet {K : PySem.W.Frag} {g : Rg} {env : En} {σ : St} {H : Hp} {q : Addr} {xs : List V} (F : Frm K κ g env σ H) (hp : g.P q) (hx : ∃ x y z : Int, xs = [.int x, .int y, .int z]) : Frm K κ g env σ (L2.upd H q (.lst xs)) :=
  F.next (fun b o e np => by rw [upd_ne (fun z => np (by rw [z]; exact hp))]; exact e) (fun b p => by
    by_cases hb : b = q
    · subst hb
      obtain ⟨x, y, z, e⟩ := hx
      exact ⟨x, y, z, by rw [upd_same, e]⟩
    · obtain ⟨x, y, z, e⟩ := (F.pl b p).2
      exact ⟨x, y, z, by rw [upd_ne hb]; exact e⟩) rfl rfl rfl (fun a p => (F.pl a p).1) F.il fun a q => .inl q
theorem ss_plset {i : Nat} {x : Str} {px p2 spos : Pos} {c : Int} {j : Nat} (ho : PE X (.Name x px) (tVar i)) (hv : SE X κ Me .fz e w) (hk : kindOf κ i = .p) (hc : c = 0 ∨ c = 1 ∨ c = 2 := by decide) (sub : ∀ i ∈ Me, i ∈ M := by decide)
    (ha : ∀ v, assign (.Subscript (.Name x px) (.Constant (.int c) j p2) spos) X.env v = (do
      let ov ← holding [v] (eval (.Name x px) X.env)
      let iv ← holding [v, ov] (eval (.Constant (.int c) j p2) X.env)
      standAt spos
      holding [v, ov, iv] (setItem ov iv v)
      release [v, ov, iv] []) := by intro _; rfl) (hs : swapsWithSole [.Subscript (.Name x px) (.Constant (.int c) j p2) spos] e pos.line X.env = pure false := by rfl) (hw : swappedStores [.Subscript (.Name x px) (.Constant (.int c) j p2) spos] e X.env = pure none := by rfl)
    (h1 : (assignEach [.Subscript (.Name x px) (.Constant (.int c) j p2) spos] X.env).map (·.2) = [assign (.Subscript (.Name x px) (.Constant (.int c) j p2) spos) X.env] := by rfl) : SS X κ M k (.Assign [.Subscript (.Name x px) (.Constant (.int c) j p2) spos] e pos) (wPlSet i w) :=
  SS.of (ps_asg hv (pg_sub ho pe_int set_list ha) hs hw h1) fun D σ H ⟨g, env, W, F, hw, n, b, _, r⟩ => ⟨g, env, _, F, hw, fun v H1 g1 e1 d F1 s1 r1 ⟨y, ed, he, w1⟩ => by
    subst ed
    have ev : v = .int y := Rep.toInt r1
    subst ev
    obtain ⟨v0, sv, sl⟩ := F1.ev i _ he
    rw [hk] at sl
    obtain ⟨q, rfl, hp, _⟩ := sl
    obtain ⟨_, x0, x1, x2, hH⟩ := F1.pl q hp
    have go : ∀ xs : List V, (∃ x y z : Int, xs = [.int x, .int y, .int z]) → D.nx σ (upd H1 q (.lst xs)) := fun xs hx => by
      have F2 := F1.poolSet hp hx
      refine n g1 e1 σ _ F2 (((s1.mono sub).toS F F1).trans ⟨fun _ q => q, fun _ q => .inl q, fun _ q => q, fun _ q => .inl q, fun _ _ q => .inl q, rfl, fun _ _ => rfl, fun b o e np _ _ => by rw [upd_ne (fun z => np (by rw [z]; exact hp))]; exact e, fun b nb => ?_, fun b p => (F2.pl b p).2, fun _ _ _ h => h⟩) w1
      by_cases hb : b = q
      · subst hb; rw [upd_same]; simp
      · rw [upd_ne hb]; exact nb
    rcases hc with rfl | rfl | rfl
    · exact ⟨_, sv, q, _, 0, 0, rfl, rfl, hH, rfl, go _ ⟨y, x1, x2, rfl⟩⟩
    · exact ⟨_, sv, q, _, 1, 1, rfl, rfl, hH, rfl, go _ ⟨x0, y, x2, rfl⟩⟩
    · exact ⟨_, sv, q, _, 2, 2, rfl, rfl, hH, rfl, go _ ⟨x0, x1, y, rfl⟩⟩⟩
end
theorem bt_len : bootBuiltins "len" = some (.builtin "len") := by decide +kernel
theorem bt_max : bootBuiltins "max" = some (.builtin "max") := by decide +kernel
theorem bt_min : bootBuiltins "min" = some (.builtin "min") := by decide +kernel
theorem bt_sorted : bootBuiltins "sorted" = some (.builtin "sorted") := by decide +kernel
theorem bt_tuple : bootBuiltins "tuple" = some (.type "tuple") := by decide +kernel
theorem bt_int : bootBuiltins "int" = some (.type "int") := by decide +kernel
theorem bt_bool : bootBuiltins "bool" = some (.type "bool") := by decide +kernel
theorem kt_int : (["NoneType", "bool", "int", "str", "list", "tuple", "dict"].all fun t => kitB t "int" == some (isT "int" t)) = true := by decide +kernel
theorem kt_bool : (["NoneType", "bool", "int", "str", "list", "tuple", "dict"].all fun t => kitB t "bool" == some (isT "bool" t)) = true := by decide +kernel
theorem kt_tuple : (["NoneType", "bool", "int", "str", "list", "tuple", "dict"].all fun t => kitB t "tuple" == some (isT "tuple" t)) = true := by decide +kernel
def noList (K : PySem.W.Frag) : Bool := K.all fun p => !(p.2.cls == .type "list")
theorem no_list {K : PySem.W.Frag} (h : noList K = true) {a : Addr} {o : Obj} (e : K.lookup a = some o) : o.cls ≠ .type "list" := by
  induction K with
  | nil => simp at e
  | cons p r ih =>
    unfold noList at h
    simp only [List.all_cons, Bool.and_eq_true] at h
    obtain ⟨b, ob⟩ := p
    rw [List.lookup_cons] at e
    split at e
    · cases e
      intro z
      have := h.1
      simp only [z] at this
      revert this; decide +kernel
    · exact ih h.2 e
theorem law_sp {K : PySem.W.Frag} (hn : noList K = true) {H : Hp} {a : Addr} {ns : List Int} (hl : ns.length ≤ 63) (h : SqL K H a (ns.map V.int)) : spOfL K [.rd] .fz lawS [.ref a] H (fun v _ => v = .bl true) fun _ _ _ => False := by
  rcases h with h | ⟨o, its, n, e, c, _⟩
  · refine ⟨fun b => b = a, fun _ => False, [.list (ns.map .int)], fun d => d = .bool true, fun b q => by rw [q]; exact rd_tk h, fun _ q => q.elim, ⟨.inr ⟨a, rfl, id, rfl, script_rep h hl⟩, trivial⟩, ⟨ns, rfl, hl, rfl⟩, fun v H' d pd _ r => ?_⟩
    subst pd
    exact Rep.toBl r
  · exact absurd c (no_list hn e)
theorem law_walk {l : PySem.W.OpenLaw} {k : Nat} {q : Program} {loose : List Str} {XP : (Str → Option Value) → Heap → Prop} {YP : World → Heap → Prop} {d : DefRec} {K : Params → PySem.W.Frag}
    (hn : l.most = some 63) (hdf : d.params.defaults = []) (hr : Room k callerA) (hY : ∀ (w : World) (h : Heap), YP w h → (K w.params).In h) (hK : ∀ w : World, noList (K w.params) = true)
    (F : ∀ (w : World) (mg : Str → Option Value) (fa : Addr) (h : Heap), (K w.params).In h → h.Ns mainGlobals mg → mg d.name = some (.ref fa) →
      ∃ fd : FuncData, (∀ (s : Shared) (u : Value), BindsTo s fd ⟨[u], []⟩ [("script", u)]) ∧ ∀ base : Heap, (K w.params).In base → base.Ns mainGlobals mg → FnOk l.prog w (K w.params) mg base CX0 k fa fd ["script"] (spOfL (K w.params) [.rd] .fz lawS)) :
    PySem.W.WalkO q loose XP YP l.row.toRowW d [] (fun f vs => PySem.call f vs) :=
  L2.walk_of (n := 63) (k := k) (x := "script") (CX := fun _ => CX0) (sp := fun w => spOfL (K w.params) [.rd] .fz lawS) hn (by decide) hdf hr hY F (fun w _ a ns hl _ hS => law_sp (hK w) hl hS) fun _ _ _ _ _ z => z
end G7

set_option maxRecDepth 100000
namespace G7
open PySem PySem.Spec PyProof.Rows L2
section
variable {K : PySem.W.Frag} {κ : List SK} {g g' : Rg} {env env' : En} {σ : St} {H H' : Hp} {M : List Nat} {i j : Nat} {v : V} {d : D} {k : RK} {x : SK} {a : Addr} {cn : Str}
theorem kind_lt' (hl : i < κ.length) : kindOf (κ.set i x) i = x := by
  unfold kindOf
  rw [List.getElem?_set_self hl]; rfl
/-- the slot holds the caught exception -/
theorem Frm.setX (F : Frm K κ g env σ H) (hl : i < κ.length) (cn : Str) : Frm K (κ.set i (.x a cn)) g (env.set i (some (exD cn))) (σ.set i (some (.ref a))) H := by
  refine ⟨by simp [F.ln], by simp [F.sl], fun j d e hs => ?_, fun j d e hs => ?_, F.inj, F.alo', F.ot', F.il, F.pl⟩
  rotate_left 1
  · have hj : j ≠ i := fun c => by rw [c, kind_lt' hl] at hs; cases hs
    rw [List.getElem?_set_ne fun c => hj c.symm] at e
    rw [kind_ne hj] at hs
    exact (F.gh j d e hs).same
  by_cases hj : j = i
  · subst hj
    refine ⟨.ref a, List.getElem?_set_self (by rw [F.sl]; exact hl), ?_⟩
    rw [kind_lt' hl]
    rw [List.getElem?_set_self (by rw [F.ln]; exact hl)] at e
    cases e
    exact ⟨rfl, .inl rfl⟩
  · rw [List.getElem?_set_ne fun c => hj c.symm] at e
    rw [kind_ne hj] at hs
    obtain ⟨v', e1, s'⟩ := F.ev j d e
    exact ⟨v', by rw [List.getElem?_set_ne fun c => hj c.symm]; exact e1, by rw [kind_ne hj]; exact s'⟩
theorem Frm.offX (F : Frm K (κ.set i (.x a cn)) g env σ H) : Frm K κ g (env.set i none) (σ.set i none) H := by
  refine ⟨by rw [List.length_set, F.ln, List.length_set], by rw [List.length_set, F.sl, List.length_set], fun j d e hs => ?_, fun j d e hs => ?_, F.inj, F.alo', F.ot', F.il, F.pl⟩
  rotate_left 1
  · by_cases hj : j = i
    · subst hj
      by_cases hl : j < env.length
      · rw [List.getElem?_set_self hl] at e; cases e
      · rw [List.getElem?_eq_none (by simpa using hl)] at e; cases e
    · rw [List.getElem?_set_ne fun c => hj c.symm] at e
      exact (F.gh j d e (by rw [kind_ne hj]; exact hs)).same
  by_cases hj : j = i
  · subst hj
    by_cases hl : j < env.length
    · rw [List.getElem?_set_self hl] at e; cases e
    · rw [List.getElem?_eq_none (by simpa using hl)] at e; cases e
  · rw [List.getElem?_set_ne fun c => hj c.symm] at e
    obtain ⟨v', e1, s'⟩ := F.ev j d e (by rw [kind_ne hj]; exact hs)
    rw [kind_ne hj] at s'
    exact ⟨v', by rw [List.getElem?_set_ne fun c => hj c.symm]; exact e1, s'⟩
theorem SStep.kindX (h : SStep (κ.set i (.x a cn)) M g g' H H') (hk : kindOf κ i = .v) : SStep κ M g g' H H' := by
  have kk : ∀ j, (kindOf (κ.set i (.x a cn)) j = .o ∨ kindOf (κ.set i (.x a cn)) j = .f) → (kindOf κ j = .o ∨ kindOf κ j = .f) := fun j kj => by
    by_cases c : j = i
    · exfalso
      rw [c] at kj
      unfold kindOf at kj
      by_cases hl : i < κ.length
      · rw [List.getElem?_set_self hl] at kj; rcases kj with kj | kj <;> cases kj
      · rw [List.getElem?_eq_none (by rw [List.length_set]; omega)] at kj; rcases kj with kj | kj <;> cases kj
    · rw [kind_ne c] at kj; exact kj
  refine ⟨h.pu, h.pd, h.up, h.dn, fun b e a => (h.al b e a).imp id (Or.imp (fun ⟨j, hj, kj, z⟩ => ⟨j, hj, kk j kj, z⟩) id), h.I, fun j q => h.qs j ?_, h.keep, h.th, h.pool, fun j b hj e => h.st j b ⟨hj.1, fun c => (kk j (.inl c)).elim hj.2.1 hj.2.2, fun c => (kk j (.inr c)).elim hj.2.1 hj.2.2⟩ e⟩
  rw [kind_ne fun c => by rw [c, hk] at q; exact absurd q (by decide)]
  exact q
theorem ResR.kindX (r : ResR K (κ.set i (.x a cn)) k g H H' v d) (hk : kindOf κ i = .v) (hl : i < κ.length) : ResR K κ k g H H' v d := by
  have hb : ∀ b, baseO κ g b → baseO (κ.set i (.x a cn)) g b := fun b q => q.imp id fun ⟨j, hj, e⟩ => ⟨j, hj.imp (fun hj => by rw [kind_ne fun c => by rw [c, hk] at hj; cases hj]; exact hj) (fun hj => by
    by_cases c : j = i
    · subst c
      rw [stPl, kind_lt' hl]
      exact ⟨hj.1, fun c => (nomatch c), fun c => (nomatch c)⟩
    · rw [stPl, kind_ne c]; exact hj), e⟩
  have less : ∀ {v d}, Rep K H' (baseO (κ.set i (.x a cn)) g) v d → Rep K H' (baseO κ g) v d := fun r => r.keep (fun _ _ _ q => q) fun b q => .inl (hb b q)
  cases k with
  | nw =>
    obtain ⟨p, rfl, n, r⟩ := r
    refine ⟨p, rfl, n.imp id fun ⟨j, hj, e⟩ => ⟨j, ?_, e⟩, r.keep (fun _ q => q) (fun _ _ _ q => q) fun b q => .inl (q.imp (hb b) id)⟩
    by_cases c : j = i
    · subst c
      rw [kind_lt' hl] at hj
      rcases hj with hj | hj <;> cases hj
    · rw [kind_ne c] at hj; exact hj
  | fz => exact less r
  | rd => exact less r
  | ow i => exact less r
  | pl => exact less r
  | np => exact less r
end
/-- the suite by the class that came -/
def tryCase : List (Str × WS) → Str → WD → En → Prop
  | [], _, _, _ => False
  | (n, ws) :: r, cn, W, e => (cn = n ∧ ws W e) ∨ tryCase r cn W e
def wTryX (i : Nat) (cs : List (Str × WS)) (wb : WS) : WS := fun W e => wb { W with rt := fun d e1 => (∀ cn, d = exD cn → tryCase cs cn { nx := fun e2 => W.nx (e2.set i none), rt := fun d e2 => W.rt d (e2.set i none), bk := fun e2 => W.bk (e2.set i none), ct := fun e2 => W.ct (e2.set i none) } (e1.set i (some (exD cn)))) ∧ ((∀ cn, d ≠ exD cn) → W.rt d e1) } e
def allC (P : Str → Addr → WS → Prop) : List (Str × Addr × WS) → Prop
  | [] => True
  | (n, C, ws) :: r => P n C ws ∧ allC P r
theorem tryCase_mem {P : Str → Addr → WS → Prop} : ∀ {L : List (Str × Addr × WS)} {cn : Str} {W : WD} {e : En}, tryCase (L.map fun t => (t.1, t.2.2)) cn W e → allC P L → ∃ p : Str × Addr × WS, P p.1 p.2.1 p.2.2 ∧ p.1 = cn ∧ p.2.2 W e
  | [], _, _, _, h, _ => h.elim
  | (n, C, ws) :: r, cn, W, e, h, hP => by
    rcases h with ⟨h1, h2⟩ | h
    · exact ⟨(n, C, ws), hP.1, h1.symm, h2⟩
    · exact tryCase_mem h hP.2
section
variable {X : Cx} {κ : List SK} {M : List Nat} {k : RK}
theorem ss_tryX {x n : Str} {c : Value} {i : Nat} {body suite : List Stmt} {b₀ : Stmt} {np pos pos' : Pos} {wb : WS} (L : List (Str × Addr × WS)) (hs : X.stack = X.env :: X.outer) (hf : X.env.frame = some X.env.locals) (hN : X.N.Nodup) (hi : X.N[i]? = some n) (hln : X.env.kindOf n = some .local) (hc : Names X.nox x c) (hk : kindOf κ i = .v) (hl : i < κ.length)
    (hL : allC (fun cn C ws => X.mg cn = some (.ref C) ∧ PySem.W.exmOne X.K (.ref C) c = some true ∧
      ∀ (a : Addr) (oe : Obj) (pn : List (Addr × Obj)), L2N.Zn (.ref C) none oe → (∃ vs, oe.data = .fields vs) → SSs (X.nox.suite a ((a, oe) :: pn)) (κ.set i (.x a cn)) M k (b₀ :: suite) ws) L)
    (hb : ∀ (W : WX) (pn : List (Addr × Obj)) (xe : Value → Shared → Prop), L2N.Takes (X.nox.tr pn xe) W → SSsX (X.nox.tr pn xe) W κ M k body wb) :
    SS X.nox κ M k (.Try body [.ExceptHandler (some (.Name x np)) (some n) (b₀ :: suite) pos'] [] [] pos) (wTryX i (L.map fun t => (t.1, t.2.2)) wb) := by
  refine SS.of (L2N.ps_try_as (X := X.nox) (i := i) (tb := fun W => cSX X.K X.mg κ M k W wb) (ts := fun a clsv d D σ H => ∃ p : Str × Addr × WS, (∀ (a : Addr) (oe : Obj) (pn : List (Addr × Obj)), L2N.Zn (.ref p.2.1) none oe → (∃ vs, oe.data = .fields vs) → SSs (X.nox.suite a ((a, oe) :: pn)) (κ.set i (.x a p.1)) M k (b₀ :: suite) p.2.2) ∧ clsv = .ref p.2.1 ∧ d = none ∧ cS X.K (κ.set i (.x a p.1)) M k p.2.2 D σ H) hs hf hN hi hln hc takes_no
    (fun W pn xe tk _ => hb W pn xe tk) fun a oe clsv d pn hz hd => ⟨fun pins s σ H D I ⟨p, hp, e1, e2, q⟩ => ?_⟩) fun D σ H ⟨g, env, W, F, hw, nn, bb, cc, rr⟩ => ?_
  · subst e1; subst e2
    exact (hp a oe pn hz hd).run pins s σ H D I q
  · refine ⟨g, env, _, F, hw, nn, bb, cc, fun g' env' σ' H' v d F' s' r w' => rr g' env' σ' H' v d F' s' r (w'.2 fun cn e => ?_), fun g' env' σ' H' cn C F' s' w' hC => ?_⟩
    · subst e
      have r' : ∃ S, Rep X.K H' S v (exD cn) ∨ ∃ p, Obj1 X.K H' S p (exD cn) := by
        cases k with
        | nw => obtain ⟨p, _, _, r⟩ := r; exact ⟨_, .inr ⟨p, r⟩⟩
        | fz => exact ⟨_, .inl r⟩
        | rd => exact ⟨_, .inl r⟩
        | ow i => exact ⟨_, .inl r⟩
        | pl => exact ⟨_, .inl r⟩
        | np => exact ⟨_, .inl r⟩
      obtain ⟨S, r' | ⟨p, r'⟩⟩ := r'
      · exact Rep.noEx r'
      · exact Rep.noEx (S := fun _ => False) ((r'.keep (S' := fun _ => False) (fun _ q => q) (fun _ _ _ q => q) fun _ q => q.elim).rep fun q => q)
    · obtain ⟨p, ⟨hm, hx, hsu⟩, e1, w2⟩ := tryCase_mem (w'.1 cn rfl) hL
      subst e1
      rw [hC] at hm
      cases hm
      refine ⟨true, hx, fun _ a na => ⟨p, hsu, rfl, rfl, ?_⟩, fun z => nomatch z⟩
      exact ⟨g', _, _, F'.setX hl p.1, w2, fun g2 e2 σ2 H2 F2 s2 q => nn g2 _ _ H2 F2.offX (s'.trans (s2.kindX hk)) q, fun g2 e2 σ2 H2 F2 s2 q => bb g2 _ _ H2 F2.offX (s'.trans (s2.kindX hk)) q,
        fun g2 e2 σ2 H2 F2 s2 q => cc g2 _ _ H2 F2.offX (s'.trans (s2.kindX hk)) q, fun g2 e2 σ2 H2 v d F2 s2 r q => rr g2 _ _ H2 v d F2.offX (s'.trans (s2.kindX hk)) ((r.kindX hk hl).back s') q⟩
end
/-- a class told in isinstance's second place -/
inductive CA (X : Cx) : Expr → V → Value → Prop
  | own {x : Str} {pos : Pos} {C : Addr} : Gl X x → X.mg x = some (.ref C) → (x == ("__debug__" : Str)) = false → CA X (.Name x pos) (.ref C) (.ref C)
  | blt {x : Str} {pos : Pos} {T : String} : Gl X x → X.mg x = none → bootBuiltins x = some (.type T) → x ≠ "__name__" → (x == ("__debug__" : Str)) = false → CA X (.Name x pos) (.ty T) (.type T)
theorem CA.pe {X : Cx} {e : Expr} {c : V} {cv : Value} (h : CA X e c cv) : PE X e (tC c) := by
  cases h with
  | own h1 h2 h3 => exact pe_glob h1 h2 rfl h3
  | blt h1 h2 h3 h4 h5 => exact pe_bltn h1 h2 h3 rfl h4 h5
theorem CA.rel {X : Cx} {e : Expr} {c : V} {cv : Value} (h : CA X e c cv) {u : Value} (r : RelV c u) : u = cv := by
  cases h with
  | own => exact r
  | blt => exact r
section
variable {X : Cx} {κ : List SK} {M : List Nat} {a C : Addr} {oe : Obj} {pn : List (Addr × Obj)} {i : Nat} {n cn : Str} {p p1 pos p2 : Pos}
/-- .. of several classes -/
inductive CAs (X : Cx) : List Expr → List V → List Value → Prop
  | nil : CAs X [] [] []
  | cons {e : Expr} {es : List Expr} {c : V} {cs : List V} {cv : Value} {cvs : List Value} : CA X e c cv → CAs X es cs cvs → starEach (e :: es) X.env = (false, eval e X.env) :: starEach es X.env → CAs X (e :: es) (c :: cs) (cv :: cvs)
def tCls : List V → TA
  | [] => tNil
  | c :: cs => tCons (tC c) (tCls cs)
theorem CAs.pa {X : Cx} {es : List Expr} {cs : List V} {cvs : List Value} (h : CAs X es cs cvs) : PA X es (tCls cs) := by
  induction h with
  | nil => exact pa_nil
  | cons h _ hs ih => exact pa_cons h.pe ih hs
theorem CAs.rel {X : Cx} {es : List Expr} {cs : List V} {cvs : List Value} (h : CAs X es cs cvs) : ∀ {its : List Value}, Vals cs its → its = cvs := by
  induction h with
  | nil => intro its r; cases r; rfl
  | cons h _ _ ih =>
    intro its r
    cases r with
    | cons r1 r2 => rw [h.rel r1, ih r2]
theorem CAs.len {X : Cx} {es : List Expr} {cs : List V} {cvs : List Value} (h : CAs X es cs cvs) : cs.length = es.length := by
  induction h with
  | nil => rfl
  | cons _ _ _ ih => simp [ih]
end
structure FnBX (P : Program) (w : World) (K : PySem.W.Frag) (mg : Str → Option Value) (base : Heap) (lv : Nat) (x : Str) (ps : List Str) (ms : List PM) (k : RK) (S : FS) : Prop where
  ex : ∃ f fd, FnOk P w K mg base (L2N.CX P w) lv f fd ps (spOfX K mg ms k S) ∧ mg x = some (.ref f) ∧ PySem.W.keepIn K (.ref f) = true ∧ L2.Binds K fd ps []
def wAsgX (i : Nat) (w : WE) : WS := fun W e1 => w e1 fun d e2 => (∀ cn, d = exD cn → W.rt d e2) ∧ ((∀ cn, d ≠ exD cn) → W.nx (e2.set i (some d)))
/-- what does not raise, in a row with what may -/
theorem SSX.thru {X : Cx} {Wx : WX} {κ : List SK} {M : List Nat} {k : RK} {st : Stmt} {s : WS} (h : SS X.nox κ M k st s) : SSX X Wx κ M k st s :=
  SSX.of (⟨fun pins s0 σ H D I hw => wpAny_mono (h.run pins s0 σ H D (I.wish _) hw) (fun _ _ r => r.unwish) fun _ _ z => False.elim z⟩ : PS X st (cS X.K κ M k s)) fun D σ H ⟨g, env, W, F, hw, n, b, c, r, _⟩ => ⟨g, env, W, F, hw, n, b, c, r⟩
end G7

namespace G7
open PySem
def wIsEx (tab : List (Str × Bool)) (i : Nat) : WE := fun e Q => ∃ cn b, e[i]? = some (some (exV cn)) ∧ tab.lookup cn = some b ∧ Q (.bool b) e
def wCallH (S : FS) (i : Nat) : WE := fun e Q => ∃ cn, e[i]? = some (some (exD cn)) ∧ S [exV cn] fun d => Q d e
def wExc (cn : Str) (w : WE) : WE := fun e Q => w e fun _ e1 => Q (exV cn) e1
def wPick (S1 S2 : FS) (wi : WE) (wl : WA) : WE := fun e Q => wi e fun d e1 => (d = .int 0 ∧ wCall S1 wl e1 Q) ∨ (d = .int 1 ∧ wCall S2 wl e1 Q)
section
variable {Q : D → En → Prop} {e : En}
theorem i_isEx {tab : List (Str × Bool)} {i : Nat} {cn : Str} {b : Bool} (h : e[i]? = some (some (exV cn))) (hl : tab.lookup cn = some b) (k : Q (.bool b) e) : wIsEx tab i e Q := ⟨cn, b, h, hl, k⟩
theorem i_callH {S : FS} {i : Nat} {cn : Str} (h : e[i]? = some (some (exD cn))) (k : S [exV cn] fun d => Q d e) : wCallH S i e Q := ⟨cn, h, k⟩
theorem i_exc {cn : Str} {w : WE} (k : w e fun _ e1 => Q (exV cn) e1) : wExc cn w e Q := k
theorem i_pick {S1 S2 : FS} {wi : WE} {wl : WA} (k : wi e fun d e1 => (d = .int 0 ∧ wCall S1 wl e1 Q) ∨ (d = .int 1 ∧ wCall S2 wl e1 Q)) : wPick S1 S2 wi wl e Q := k
end
end G7

set_option maxRecDepth 100000
namespace G7
open PySem PySem.Spec PyProof.Rows L2
/-- a def's promise where an exception is handled, p, of which it is told -/
structure FnHp (P : Program) (w : World) (K : PySem.W.Frag) (mg : Str → Option Value) (base : Heap) (k : Nat) (f : Addr) (fd : FuncData) (ps : List Str) (sp : Addr × Obj → Sp) : Prop where
  len : ∀ p vs H Q E, sp p vs H Q E → vs.length = ps.length
  run : ∀ (A : Around) (outer : List Env) (s : Shared) (H : Hp) (args : Args) (us : List Value) (vs : List V) (Q : VK) (E : XK) (p : Addr × Obj), L2H.RoomH k A → L2H.Hot1 A p → L2H.PinOk outer H s p → Env0 P w K mg base A outer s H → BindsTo s fd args (ps.zip us) → Vals vs us → sp p vs H Q E →
    codeAny (model P w) A (.call (.ref f) args) (CR CX0 outer P w H s Q E) s
section
variable {P : Program} {w : World} {K : PySem.W.Frag} {mg : Str → Option Value} {base : Heap}
abbrev cxP (P : Program) (w : World) (K : PySem.W.Frag) (mg : Str → Option Value) (base : Heap) (N : List Str) (qual : Str) (scope : Scope) (f : Addr) (cd : Value) (A : Around) (outer : List Env) (s : Shared) (H : Hp) (E : XK) (p : Addr × Obj) : Cx := L2H.cxH CX0 P w K mg base N qual scope f cd A outer s H E p
theorem fn_hot {x qual : Str} {st : Stmt} {f : Addr} {fd : FuncData} {N ps : List Str} {k : Nat} {sp : Addr × Obj → Sp} (F : Fun K x qual st f fd) (Sc : FnScope N ps (defScope st)) (len : ∀ p vs H Q E, sp p vs H Q E → vs.length = ps.length)
    (hbody : ∀ (cdv : Value) (A : Around) (outer : List Env) (s : Shared) (H : Hp) (vs : List V) (Q : VK) (E : XK) (p : Addr × Obj), L2H.Hot1 A p → sp p vs H Q E →
      ∃ t, PSs (cxP P w K mg base N qual (defScope st) f cdv A outer s H E p).nox (defBody st) t ∧ t { nx := fun _ H' => Q .non H', rt := Q } (L2.start N vs) H) : FnHp P w K mg base (k + 1) f fd ps sp := by
  obtain ⟨oc, od, kV, doc, pm, an, cdv, ct, osl, rfl, lk, hcd⟩ := F.ex
  refine ⟨len, fun A outer s H args us vs Q E p room hot pin e0 bind rel hsp => ?_⟩
  have keep : ∀ b o, base.get? b = some o → s.heap.get? b = some o := fun b o e => (e0.bs b o e).1
  have inH : K.In s.heap := e0.mod.kin.keeps keep
  obtain ⟨t, ht, hq⟩ := hbody cdv A outer s H vs Q E p hot hsp
  have names : ∀ y ∈ ps.zip us, (defScope st).names.lookup y.1 = some .local ∨ ((defScope st).names.lookup y.1 = some .cell ∧ ((cellsFrom (s.heap.objs.size + 1) (defScope st).names []).lookup y.1).isSome = true) := fun y hy =>
    (Sc.par y.1 (List.of_mem_zip hy).1).imp id fun q => ⟨q, PySem.W.cellsFrom_some _ _ _ (.inl q)⟩
  refine codeAny_call_function room.depth (inH _ _ lk) rfl Sc.co Sc.gen rfl (PySem.W.codeRec_of inH hcd) (bind _ _ _ _ ?_)
  refine wpAny_newFunctionEnv_cells Sc.kind names fun env he s1 x => ?_
  subst he
  refine ⟨(e0.mod.nolimit.keeps keep).keeps x.toInCall.keep, codeAny_func ?_⟩
  refine wpAny_mono (ht.nox.run [] s1 _ H _ (L2H.inv_startH Sc pin e0 (len _ _ _ _ _ hsp) rel x) hq) (fun fl s' hs => ?_) fun _ _ z => z
  cases fl with
  | next =>
    obtain ⟨_, H', J, q⟩ := hs
    exact ⟨.non, H', J.os, J.bare, J.base, J.hok, rfl, q⟩
  | ret u =>
    obtain ⟨v, _, H', J, r, q⟩ := hs
    exact ⟨v, H', J.os, J.bare, J.base, J.hok, r, q⟩
  | brk => exact hs.elim fun _ h => h.elim fun _ h => h.2.elim
  | cont => exact hs.elim fun _ h => h.elim fun _ h => h.2.elim
/-- the promise: S tells of the exception what is wanted of the answer's data -/
def spH (K : PySem.W.Frag) (k : RK) (S : FS) (p : Addr × Obj) : Sp := fun vs H Q _ => ∃ (O P : Addr → Prop) (C : Addr) (cn : Str) (Post : D → Prop),
  (∀ a, O a → Tk H a) ∧ (∀ a, P a → O a ∧ Pool H a) ∧ vs = [.ref p.1] ∧ L2N.Zn (.ref C) none p.2 ∧ (∃ fs, p.2.data = .fields fs) ∧ ExK K cn C ∧ S [exV cn] Post ∧
  ∀ v H' d, Post d → (∀ b o, H b = some o → ¬ P b → H' b = some o) → (∀ b, P b → Pool H' b) → ResC K k H H' O v d → Q v H'
theorem fn_defH {x qual : Str} {st : Stmt} {f : Addr} {fd : FuncData} {N : List Str} {y : Str} {lv : Nat} {κ : List SK} {M : List Nat} {rk : RK} {S : FS} {wb : WS} (F : Fun K x qual st f fd) (Sc : FnScope N [y] (defScope st)) (hκ : κ.length + 1 = N.length)
    (hr : rk = .fz ∨ rk = .nw) (hq : ∀ a cn i, kindOf (.x a cn :: κ) i ≠ .q)
    (body : ∀ (cdv : Value) (A : Around) (outer : List Env) (s : Shared) (H : Hp) (E : XK) (p : Addr × Obj) (C : Addr) (cn : Str), L2H.Hot1 A p → L2N.Zn (.ref C) none p.2 → (∃ fs, p.2.data = .fields fs) → ExK K cn C →
      SSs (cxP P w K mg base N qual (defScope st) f cdv A outer s H E p).nox (.x p.1 cn :: κ) M rk (defBody st) wb)
    (math : ∀ ds Post, S ds Post → wb { nx := fun _ => Post .none ∧ rk = .fz, rt := fun d _ => Post d } (startE N.length ds)) (hv : 999 ∉ M := by decide) :
    FnHp P w K mg base (lv + 1) f fd [y] (spH K rk S) := by
  refine fn_hot F Sc (fun p vs H Q E h => ?_) fun cdv A outer s H vs Q E p hot h => ?_
  · obtain ⟨_, _, _, _, _, _, _, rfl, _⟩ := h
    rfl
  · obtain ⟨O, P', C, cn, Post, hO, hP, rfl, hz, hf, EK, hS, k⟩ := h
    refine ⟨_, body cdv A outer s H E p C cn hot hz hf EK, ?_⟩
    have Fr0 : Frm K (.x p.1 cn :: κ) ⟨O, P', O, fun _ => none⟩ (startE N.length [exV cn]) (L2.start N [.ref p.1]) H := by
      refine ⟨by simp [startE]; omega, by simp [L2.start]; omega, fun i d e _ => ?_, fun i d e hs => ?_, fun i j a (e : none = some a) => (nomatch e), fun i a (e : none = some a) => (nomatch e), hO, fun _ q => q, hP⟩
      unfold startE at e
      match i, e with
      | 0, e =>
        have e' : exV cn = d := by simpa using e
        exact ⟨.ref p.1, by simp [L2.start], rfl, .inr e'.symm⟩
      | i + 1, e =>
        rw [List.getElem?_append_right (by simp), List.getElem?_replicate] at e
        split at e <;> cases e
      unfold startE at e
      match i, e, hs with
      | 0, _, hs => cases hs
      | i + 1, e, _ =>
        rw [List.getElem?_append_right (by simp), List.getElem?_replicate] at e
        split at e <;> cases e
    have nb : ∀ a, baseO (.x p.1 cn :: κ) ⟨O, P', O, fun _ => none⟩ a → O a := fun a q => q.elim id fun ⟨_, _, (e : none = some a)⟩ => nomatch e
    have ob : ∀ a, O a → baseO (.x p.1 cn :: κ) ⟨O, P', O, fun _ => none⟩ a := fun a q => .inl q
    have fin : ∀ {g' : Rg} {env' : En} {σ' : St} {H' : Hp} {v : V} {d : D}, Frm K (.x p.1 cn :: κ) g' env' σ' H' → SStep (.x p.1 cn :: κ) M ⟨O, P', O, fun _ => none⟩ g' H H' → ResR K (.x p.1 cn :: κ) rk ⟨O, P', O, fun _ => none⟩ H H' v d → Post d → Q v H' := by
      intro g' env' σ' H' v d F' s' r pd
      refine k v H' d pd (fun b o e np => s'.keep b o e np (fun _ _ (z : none = some b) => nomatch z) fun h => absurd h hv) (fun b p => s'.pool b p) ?_
      rcases hr with e | e <;> subst e
      · exact Rep.keep (fun _ _ _ q => q) (fun a q => .inl (ob a q)) r
      · obtain ⟨q, e1, n, r⟩ := r
        have n' : H q = none := n.elim id fun ⟨_, _, (z : none = some q)⟩ => nomatch z
        exact ⟨q, e1, n', r.keep (fun _ q => q) (fun _ _ _ q => q) fun a h => .inl (h.imp (ob a) id)⟩
    exact ⟨⟨O, P', O, fun _ => none⟩, startE N.length [exV cn], _, Fr0, math _ Post hS, fun g' env' σ' H' F' s' ⟨pd, er⟩ => fin F' s' (by subst er; exact .non) pd, fun _ _ _ _ _ _ q => q.elim, fun _ _ _ _ _ _ q => q.elim,
      fun g' env' σ' H' v d F' s' r pd => fin F' s' r pd⟩
/-- .. as its callers use it -/
structure FnBH (P : Program) (w : World) (K : PySem.W.Frag) (mg : Str → Option Value) (base : Heap) (lv : Nat) (x : Str) (y : Str) (k : RK) (S : FS) : Prop where
  ex : ∃ f fd, FnHp P w K mg base lv f fd [y] (spH K k S) ∧ mg x = some (.ref f) ∧ PySem.W.keepIn K (.ref f) = true ∧ L2.Binds K fd [y] []
end
def tabOkB (K : PySem.W.Frag) (cv : Value) (tab : List (Str × Bool)) : Bool := tab.all fun p => match clsOf K p.1 with
  | some C => PySem.W.kitOne K (.ref C) cv == some p.2
  | none => false
theorem tab_at {K : PySem.W.Frag} {cv : Value} {tab : List (Str × Bool)} {cn : Str} {b : Bool} {C : Addr} (h : tabOkB K cv tab = true) (hl : tab.lookup cn = some b) (hc : clsOf K cn = some C) : PySem.W.kitOne K (.ref C) cv = some b := by
  induction tab with
  | nil => cases hl
  | cons p tab ih =>
    obtain ⟨n, b'⟩ := p
    simp only [tabOkB, List.all_cons, Bool.and_eq_true] at h
    rw [List.lookup_cons] at hl
    split at hl
    · next q =>
      have e : cn = n := beq_iff_eq.mp q
      subst e
      cases hl
      have h1 := h.1
      rw [hc] at h1
      exact beq_iff_eq.mp h1
    · exact ih h.2 hl
section
variable {X : Cx} {κ : List SK} {M : List Nat} {a C : Addr} {oe : Obj} {i : Nat} {n cn : Str} {p p1 pos : Pos} {e2 : Expr} {c : V} {cv : Value} {tab : List (Str × Bool)}
theorem call_isP {D : Addr} (EC : ExcC X.K D) (hz : L2.Zc (.ref D) none oe) (hf : ∃ vs, oe.data = .fields vs) (hp : (a, oe) ∈ X.pn) : CallR X (.builtin "isinstance") (rIsE X.K D a) := by
  intro pins s σ H xs us Q I r h
  obtain ⟨c, cv, b, rfl, hcv, e, q⟩ := h
  obtain ⟨u1, u2, rfl, r1, r2⟩ := vals2 r
  have ec := hcv _ r2
  subst ec
  cases r1
  obtain ⟨vs, hv⟩ := hf
  have J : PySem.W.InstAt s.heap a oe D none := by
    have hget := (I.pin (a, oe) (List.mem_append_left _ hp)).1
    obtain ⟨h1, h2⟩ := hz
    obtain ⟨oc, od, oda, osl⟩ := oe
    dsimp only at h1 h2 hv
    subst h1 h2 hv
    exact ⟨hget, rfl, rfl, trivial⟩
  exact PySem.W.kia_one (PySem.W.handS_kitx_exc EC.hg EC.hk EC.hs EC.hd EC.ha EC.hn EC.ht EC.hm) I.kIn J e (fun z => nomatch z) fun tk => ⟨.bl b, H, I.kept (t' := tk) fun _ _ z => z, rfl, q⟩
/-- where it is handled -/
theorem se_isP (ht : tabOkB X.K cv tab = true) (EK : ExK X.K cn C) (hz : L2N.Zn (.ref C) none oe) (hf : ∃ vs, oe.data = .fields vs) (hp : (a, oe) ∈ X.pn) (hv : PE X (.Name n p1) (tVar i)) (hg : Gl X "isinstance") (hm : X.mg "isinstance" = none)
    (ca : CA X e2 c cv) (hk : kindOf κ i = .x a cn)
    (he : starEach [.Name n p1, e2] X.env = (false, eval (.Name n p1) X.env) :: starEach [e2] X.env := by rfl) (he2 : starEach [e2] X.env = (false, eval e2 X.env) :: starEach [] X.env := by rfl) (hpl : (backTo pos (starEach [e2] X.env)).any (·.1) = false := by rfl) :
    SE X κ M .fz (.Call (.Name "isinstance" p) [.Name n p1, e2] [] pos) (wIsEx tab i) :=
  SE.of (pe_callB (call_isP EK.kit (zcOf hz) hf hp) hg hm (by decide +kernel) (pa_cons hv (pa_cons ca.pe pa_nil he2) he) (by decide) (by decide) he hpl) fun σ H Q ⟨g, env, W, F, ⟨cn', b, e0, hl, hw⟩, post⟩ => by
    obtain ⟨v, e1, s⟩ := F.ev i _ e0
    rw [hk] at s
    obtain ⟨ev, s | s⟩ := (show v = .ref a ∧ (exV cn' = .dict [(.none, .str cn)] ∨ exV cn' = exV cn) from s)
    · cases s
    · cases s
      subst ev
      exact ⟨_, e1, c, cv, b, rfl, fun u r => ca.rel r, tab_at ht hl EK.cls, post _ H g env _ F .refl (.bl b) hw⟩
/-- where nothing is -/
theorem se_isC (ht : tabOkB X.K cv tab = true) (hv : PE X (.Name n p1) (tVar i)) (hg : Gl X "isinstance") (hm : X.mg "isinstance" = none)
    (ca : CA X e2 c cv) (hk : kindOf κ i = .v)
    (he : starEach [.Name n p1, e2] X.env = (false, eval (.Name n p1) X.env) :: starEach [e2] X.env := by rfl) (he2 : starEach [e2] X.env = (false, eval e2 X.env) :: starEach [] X.env := by rfl) (hpl : (backTo pos (starEach [e2] X.env)).any (·.1) = false := by rfl) :
    SE X κ M .fz (.Call (.Name "isinstance" p) [.Name n p1, e2] [] pos) (wIsEx tab i) :=
  SE.of (pe_callB call_isV hg hm (by decide +kernel) (pa_cons hv (pa_cons ca.pe pa_nil he2) he) (by decide) (by decide) he hpl) fun σ H Q ⟨g, env, W, F, ⟨cn', b, e0, hl, hw⟩, post⟩ => by
    obtain ⟨v, e1, s⟩ := F.ev i _ e0
    rw [hk] at s
    obtain ⟨a', C', φ, rfl, hA, hx, EK⟩ := RdB.toEx (.inl (show Rep X.K H g.own v (exV cn') from s))
    exact ⟨_, e1, a', C', φ, c, cv, b, rfl, hA, hx, EK.kit, fun u r => ca.rel r, tab_at ht hl EK.cls, post _ H g env _ F .refl (.bl b) hw⟩
end
section
variable {X : Cx} {κ : List SK} {M : List Nat} {a C : Addr} {oe : Obj} {pn : List (Addr × Obj)} {i : Nat} {n cn x y : Str} {p p1 pos : Pos} {k : RK} {S : FS}
theorem se_callH {lv lc : Nat} (G : FnBH X.prog X.w X.K X.mg X.base lc x y k S) (hr : Room lv X.A) (EK : ExK X.K cn C) (hz : L2N.Zn (.ref C) none oe) (hf : ∃ vs, oe.data = .fields vs) (hv : PE (X.suite a ((a, oe) :: pn)) (.Name n p1) (tVar i)) (hg : Gl (X.suite a ((a, oe) :: pn)) x)
    (hk : kindOf κ i = .x a cn) (hl : lc ≤ lv := by decide) (kk : k = .fz ∨ k = .nw := by first | exact .inl rfl | exact .inr rfl) (hdb : (x == ("__debug__" : Str)) = false := by decide)
    (he : starEach [.Name n p1] X.env = (false, eval (.Name n p1) X.env) :: starEach [] X.env := by rfl) (hpl : (backTo pos (starEach [] X.env)).any (·.1) = false := by rfl) :
    SE (X.suite a ((a, oe) :: pn)) κ M k (.Call (.Name x p) [.Name n p1] [] pos) (wCallH S i) := by
  obtain ⟨f, fd, FF, hm, hkp, hb⟩ := G.ex
  refine ⟨fun pins s σ H Q I ⟨g, env, W, F, ⟨cn', e0, hS⟩, post⟩ => ?_⟩
  obtain ⟨v, e1, sl⟩ := F.ev i _ e0
  rw [hk] at sl
  obtain ⟨ev, sl | sl⟩ := (show v = .ref a ∧ (exD cn' = .dict [(.none, .str cn)] ∨ exD cn' = exV cn) from sl)
  · cases sl
    subst ev
    refine wpAny_Call_Name_kw (ld_glob I hg hm ?_ hdb)
    refine PySem.W.callWith_K (h₀ := X.base) I.ok.mod.kin hkp (thn ((pa_cons hv pa_nil he).run pos pins s σ H (fun vs H1 => vs = [.ref a] ∧ H1 = H) I ⟨_, e1, rfl, rfl⟩) fun us s1 ⟨vs, H1, I1, r, q1, q2⟩ => ⟨I1.kIn, ?_⟩) he hpl
    subst q1 q2
    have P1 := I1.pin (a, oe) (List.mem_append_left _ List.mem_cons_self)
    have hot : L2H.Hot1 (X.suite a ((a, oe) :: pn)).A (a, oe) := by
      obtain ⟨fs, ed⟩ := hf
      exact ⟨rfl, fs, ed, hz.2.2 fs ed⟩
    have pin : L2H.PinOk (X.suite a ((a, oe) :: pn)).stack H1 s1 (a, oe) := ⟨P1.1, P1.2.1, fun hm => (List.mem_cons.mp (I1.stkSub a hm)).elim P1.2.2.1 P1.2.2.2.1, P1.2.2.2.2⟩
    have b := hb s1 us I1.kIn (by rw [List.append_nil]; exact r.length.symm)
    rw [List.append_nil] at b
    have room : L2H.RoomH lc (X.suite a ((a, oe) :: pn)).A := ⟨(hr.mono hl).dp, (hr.mono hl).un⟩
    refine wpAny_call (codeAny_mono (FF.run _ (X.suite a ((a, oe) :: pn)).stack s1 H1 ⟨us, []⟩ us [.ref a] Q E0 (a, oe) room hot pin I1.env0 b r
      ⟨g.own, g.P, C, cn, _, fun a q => F.own_tk q, fun a q => ⟨F.p_own q, (F.pl a q).2⟩, rfl, hz, hf, EK, hS, fun v H2 d wd kp pl rc => ?_⟩) fun r s' hq => ?_)
    · obtain ⟨g2, F2, s2, r2⟩ := ResC.back F kk kp pl rc
      exact post v H2 g2 env d F2 (s2.mono fun _ q => nomatch q) r2 wd
    · cases r with
      | error e => exact hq.elim
      | ok fl =>
        cases fl with
        | ret u => exact I1.after hq
        | next => exact False.elim hq
        | brk => exact False.elim hq
        | cont => exact False.elim hq
  · cases sl
end
section
variable {X : Cx} {κ : List SK} {M : List Nat} {C : Addr} {bmB : List Value} {B newId initId : String} {x : Str} {p pos : Pos} {e : Expr} {w : WE} {k : RK}
theorem se_exc (Fa : ExcBaseFacts B newId initId bmB) (q : PySem.W.excIn X.K C bmB newId = true) (gC : X.mg x = some (.ref C)) (kC : PySem.W.keepIn X.K (.ref C) = true) (EK : ExK X.K x C) (hg : Gl X x) (he : SE X κ M k e w)
    (hs : starEach [e] X.env = (false, eval e X.env) :: starEach [] X.env := by rfl) (hdb : (x == ("__debug__" : Str)) = false := by decide) : SE X κ M .fz (.Call (.Name x p) [e] [] pos) (wExc x w) :=
  SE.of (pe_exc1 Fa q gC kC hg he hs hdb) fun σ H Q ⟨g, env, W, F, hw, post⟩ => ⟨g, env, _, F, hw, fun v H1 g1 e1 d F1 s1 r1 w1 a nl =>
    post _ _ g1 e1 _ (F1.new0 nl) (s1.tr (.new0 nl) F F1) (.ex (fun h => F1.own_ne h nl) upd_same (fun h ⟨oe, vs, h1, h2, h3, _⟩ => ⟨oe, vs, h1, h2.1, h2.2, h3⟩) EK) w1⟩
end
section
variable {X : Cx} {Wx : WX} {κ : List SK} {M : List Nat} {k : RK}
theorem pe_pick {CX : CXT} {E : St → XK} {tf : TE} {t : TA} {fe e : Expr} {es : List Expr} {pos : Pos} (hf : PE X fe tf) (hx : ∀ σ, PassesAt CX X σ (E σ)) (ha : PA X (e :: es) t)
    (ht : eval (.Call fe (e :: es) [] pos) X.env = (do callWith pos (← eval fe X.env) [] (backTo pos (starEach (e :: es) X.env)) (backToKw pos (keywordEach [] X.env))) := by rfl)
    (he : starEach (e :: es) X.env = (false, eval e X.env) :: starEach es X.env := by rfl) (hpl : (backTo pos (starEach es X.env)).any (·.1) = false := by rfl) :
    PE X (.Call fe (e :: es) [] pos) (fun σ H Q => tf σ H fun y H1 => ∃ (f : Addr) (fd : FuncData) (ps : List Str) (sp : Sp) (lv : Nat), y = .ref f ∧ FnOk X.prog X.w X.K X.mg X.base CX lv f fd ps sp ∧ Room lv X.A ∧ PySem.W.keepIn X.K (.ref f) = true ∧ L2.Binds X.K fd ps [] ∧ t σ H1 fun vs H2 => sp vs H2 Q (E σ)) := by
  refine ⟨fun pins s σ H Q I h => ?_⟩
  refine Call_ (thn (hf.run pins s σ H _ I h) fun u s1 ⟨y, H1, I1, ry, f, fd, ps, sp, lv, ey, F, hr, hk, hb, q⟩ => ?_) ht
  subst ey
  obtain rfl : u = Value.ref f := ry
  exact PySem.W.callWith_K (h₀ := X.base) I1.ok.mod.kin hk (thn (ha.run pos pins s1 σ H1 _ I1 q) fun us s2 ⟨vs, H2, I2, r, q2⟩ => ⟨I2.kIn, run_fnS F hr hb (hx σ) I2 r q2⟩) he hpl
theorem sex_pick {lv lc : Nat} {ps ps2 : List Str} {ms : List PM} {S1 S2 : FS} {x1 x2 : Str} {p1 p2 lp sp pos : Pos} {ie e : Expr} {es : List Expr} {ki : RK} {ks : List RK} {wi : WE} {wl : WA}
    (G1 : FnBX X.prog X.w X.K X.mg X.base lc x1 ps ms k S1) (G2 : FnBX X.prog X.w X.K X.mg X.base lc x2 ps2 ms k S2) (tk : L2N.Takes X Wx) (hr : Room lv X.A) (hg1 : Gl X x1) (hg2 : Gl X x2) (hi : SE X.nox κ [] ki ie wi) (hxi : PlainIx ie) (ha : SA X.nox κ M ks (e :: es) wl) (hl : lc ≤ lv := by decide) (hp : passA ks ms = true := by rfl)
    (pi : ki.rdable = true := by rfl) (kk : k = .fz ∨ k = .nw := by first | exact .inl rfl | exact .inr rfl) (hd1 : (x1 == ("__debug__" : Str)) = false := by decide) (hd2 : (x2 == ("__debug__" : Str)) = false := by decide)
    (hs1 : starEach [.Name x1 p1, .Name x2 p2] X.env = (false, eval (.Name x1 p1) X.env) :: starEach [.Name x2 p2] X.env := by rfl) (hs2 : starEach [.Name x2 p2] X.env = (false, eval (.Name x2 p2) X.env) :: starEach [] X.env := by rfl)
    (ht : eval (.Call (.Subscript (.List [.Name x1 p1, .Name x2 p2] lp) ie sp) (e :: es) [] pos) X.env = (do callWith pos (← eval (.Subscript (.List [.Name x1 p1, .Name x2 p2] lp) ie sp) X.env) [] (backTo pos (starEach (e :: es) X.env)) (backToKw pos (keywordEach [] X.env))) := by rfl)
    (he : starEach (e :: es) X.env = (false, eval e X.env) :: starEach es X.env := by rfl) (hpl : (backTo pos (starEach es X.env)).any (·.1) = false := by rfl) :
    SEX X Wx κ M k (.Call (.Subscript (.List [.Name x1 p1, .Name x2 p2] lp) ie sp) (e :: es) [] pos) (wPick S1 S2 wi wl) := by
  obtain ⟨f1, fd1, F1, hm1, hk1, hb1⟩ := G1.ex
  obtain ⟨f2, fd2, F2, hm2, hk2, hb2⟩ := G2.ex
  have hf := pe_ix (pos := sp) ix_list (pe_lst (pos := lp) (pa_cons (pe_glob (pos := p1) hg1 hm1 (v := .ref f1) rfl hd1) (pa_cons (pe_glob (pos := p2) hg2 hm2 (v := .ref f2) rfl hd2) pa_nil hs2) hs1)) (PE.nox hi) hxi
  refine SEX.of (pe_pick hf (fun σ => L2N.passAt tk σ) (PA.nox ha) ht he hpl) fun σ H Q ⟨g, env, W, Fr0, hw, post, px⟩ => ?_
  refine ⟨by show (2 : Nat) ≤ sizeLine; rw [sizeLine_eq]; decide, fun a nl => ⟨g, env, _, Fr0.new0 nl, hw, fun v H1 g1 e1 d Fr1 s1 r1 w1 => ?_⟩⟩
  have hA : H1 a = some (.lst [.ref f1, .ref f2]) := s1.keep a _ upd_same (fun q => by
    have := (Fr0.pl a q).1
    exact Fr0.own_ne (.inl this) nl) fun i hi => nomatch hi
  have s01 : EStep M g g1 H H1 := ((EStep.new0 (M := M) (g := g) (p := a) nl).tr (s1.mono fun _ q => nomatch q) Fr0 (Fr0.new0 nl))
  have fin : ∀ {f : Addr} {fd : FuncData} {ps : List Str} {S : FS}, FnOk X.prog X.w X.K X.mg X.base (L2N.CX X.prog X.w) lc f fd ps (spOfX X.K X.mg ms k S) → PySem.W.keepIn X.K (.ref f) = true → L2.Binds X.K fd ps [] → wCall S wl e1 W →
      ∃ (f' : Addr) (fd : FuncData) (ps : List Str) (sp : Sp) (lv : Nat), V.ref f = .ref f' ∧ FnOk X.prog X.w X.K X.mg X.base (L2N.CX X.prog X.w) lv f' fd ps sp ∧ Room lv X.A ∧ PySem.W.keepIn X.K (.ref f') = true ∧ L2.Binds X.K fd ps [] ∧ cA X.K κ M ks wl σ H1 fun vs H2 => sp vs H2 Q (L2.WE Wx σ) := by
    intro f fd ps S FF hk hb w1
    refine ⟨f, fd, ps, _, lc, rfl, FF, hr.mono hl, hk, hb, g1, e1, _, Fr1, w1, fun vs H2 g2 e2 ds Fr2 s2 r2 w2 => ?_⟩
    have s02 := s01.tr s2 Fr0 Fr1
    refine ⟨g2.own, g2.P, ds, _, fun a q => Fr2.own_tk q, fun a q => ⟨Fr2.p_own q, (Fr2.pl a q).2⟩, r2.args Fr2 hp, w2, fun v H3 d wd kp pl rc => ?_, fun cn C H3 wd hC kp pl => ?_⟩
    · obtain ⟨g3, Fr3, s3, r3⟩ := ResC.back Fr2 kk kp pl rc
      exact post v H3 g3 e2 d Fr3 (s02.tr (s3.mono fun _ q => nomatch q) Fr0 Fr2) (r3.back fun p q => s02.there Fr0 Fr2 q) wd
    · obtain ⟨g3, Fr3, s3, r3⟩ := ResC.back (k := .fz) (v := .non) (d := .none) Fr2 (.inl rfl) kp pl .non
      exact px H3 g3 e2 cn C Fr3 (s02.tr (s3.mono fun _ q => nomatch q) Fr0 Fr2) wd hC
  rcases w1 with ⟨rfl, w1⟩ | ⟨rfl, w1⟩
  · exact ⟨a, _, 0, .ref f1, rfl, (r1.rdb pi).toInt, .inl (.inl hA), rfl, fin F1 hk1 hb1 w1⟩
  · exact ⟨a, _, 1, .ref f2, rfl, (r1.rdb pi).toInt, .inl (.inl hA), rfl, fin F2 hk2 hb2 w1⟩
end
theorem noqX {κ : List SK} (h : κ.all (fun k => decide (k ≠ .q)) = true) (a : Addr) (cn : Str) (i : Nat) : kindOf (.x a cn :: κ) i ≠ .q := by
  cases i with
  | zero => intro h; cases h
  | succ i =>
    show (κ[i]?).getD .v ≠ .q
    cases e : κ[i]? with
    | none => intro h; cases h
    | some k => exact of_decide_eq_true (List.all_eq_true.mp h k (List.mem_of_getElem? e))
end G7

set_option maxRecDepth 100000
namespace G7
open PySem PySem.Spec PyProof.Rows L2
section
variable {X : Cx}
def tupXD : List D → Option D
  | [.list xs] => some (xtD xs)
  | _ => none
variable {κ : List SK} {M Ma : List Nat} {k ka kb : RK} {e a b : Expr} {w wa wb : WE}
/-- the first place at which it stands -/
def idxD (xs : List D) (d : D) : Option D := (xs.findIdx? fun z => PyData.eqv z d).map fun (j : Nat) => PyData.int (j : Int)
def indexD : D → D → Option D
  | .list xs, d => if okD (.list xs) = true ∧ okD d = true then idxD xs d else none
  | .dict [(.none, .tuple xs)], d => if okD (.tuple xs) = true ∧ okD d = true then idxD xs d else none
  | _, _ => none
def wIdx (f : D → D → Option D) (a b : WE) : WE := fun e Q => a e fun x e1 => ((∃ xs, x = .list xs) ∨ ∃ xs, x = xtD xs) ∧ b e1 fun y e2 => ∃ z, f x y = some z ∧ Q z e2
@[simp] theorem r_idx {f : D → D → Option D} {a b : WE} {e : En} {Q : D → En → Prop} : wIdx f a b e Q = a e fun x e1 => ((∃ xs, x = .list xs) ∨ ∃ xs, x = xtD xs) ∧ b e1 fun y e2 => ∃ z, f x y = some z ∧ Q z e2 := rfl
end
end G7

set_option maxRecDepth 100000
namespace G7
open PySem PySem.Spec PyProof.Rows L2
/-- is this the key -/
def keyB (k : Key) (d : D) : Bool := match k, d with
  | .inl i, .int j => decide (j = i)
  | .inr x, .str y => decide (y = x)
  | _, _ => false
def lookD (m : List (D × D)) (k : Key) : Option D := (m.find? fun p => keyB k p.1).map (·.2)
def putDD (m : List (D × D)) (k : Key) (v : D) : List (D × D) := if (m.any fun p => keyB k p.1) = true then m.map (fun p => if keyB k p.1 = true then (p.1, v) else p) else m ++ [(kD k, v)]
def keyOf : D → Option Key
  | .int i => some (.inl i)
  | .str x => some (.inr x)
  | _ => none
/-- the marks of other dicts -/
def plainM : List (D × D) → Bool
  | (.none, _) :: _ => false
  | (.bool _, _) :: _ => false
  | _ => true
def dgetD : D → D → Option D
  | .dict m, y => if plainM m = true then (keyOf y).bind fun k => lookD m k else none
  | _, _ => none
def dinD : D → D → Option D
  | y, .dict m => if plainM m = true then (keyOf y).map fun k => .bool (lookD m k).isSome else none
  | _, _ => none
def dninD : D → D → Option D
  | y, .dict m => if plainM m = true then (keyOf y).map fun k => .bool (!(lookD m k).isSome) else none
  | _, _ => none
def wDput (i : Nat) (v ix : WE) : WS := fun W e => v e fun y e1 => (∃ m, e1[i]? = some (some (.dict m)) ∧ plainM m = true) ∧ ix e1 fun j e2 => ∃ k m, keyOf j = some k ∧ e2[i]? = some (some (.dict m)) ∧ plainM m = true ∧ m.length < lim ∧ W.nx (e2.set i (some (.dict (putDD m k y))))
@[simp] theorem r_dput {i : Nat} {v ix : WE} {W : WD} {e : En} : wDput i v ix W e = v e fun y e1 => (∃ m, e1[i]? = some (some (.dict m)) ∧ plainM m = true) ∧ ix e1 fun j e2 => ∃ k m, keyOf j = some k ∧ e2[i]? = some (some (.dict m)) ∧ plainM m = true ∧ m.length < lim ∧ W.nx (e2.set i (some (.dict (putDD m k y)))) := rfl
section
variable {K : PySem.W.Frag} {H : Hp} {S : Addr → Prop} {a : Addr}
theorem keyOf_v {y : V} {d : D} {k : Key} (r : RdB K H S y d) (h : keyOf d = some k) : y = kV k := by
  cases d <;> simp [keyOf] at h
  · subst h; exact r.toInt
  · subst h; exact r.toStr
end
section
variable {X : Cx} {κ : List SK} {M Me : List Nat} {k ka kb : RK} {a b e : Expr} {w wa wb : WE} {pos : Pos}
theorem le65 {n : Nat} (h : n + 65 < cLine) : n + 1 < cLine := by omega
end
end G7

set_option maxRecDepth 100000
namespace G7
open PySem PySem.Spec PyProof.Rows L2
section
variable {X : Cx}
open Classical in
noncomputable def keyP (K : PySem.W.Frag) (H : Hp) (v : V) : Int × Int := if h : ∃ p t, v = V.ref t ∧ SqT K H t [.int (p : Int × Int).1, .int p.2] then Classical.choose h else (0, 0)
end
def dP (p : Int × Int) : D := .tuple [.int p.1, .int p.2]
def pairsD : List D → Option (List (Int × Int))
  | [] => some []
  | .tuple [.int i, .int j] :: r => (pairsD r).map ((i, j) :: ·)
  | _ => none
def leP (p q : Int × Int) : Prop := p.1 < q.1 ∨ (p.1 = q.1 ∧ p.2 ≤ q.2)
instance (p q : Int × Int) : Decidable (leP p q) := by unfold leP; exact inferInstance
def insP (x : Int × Int) : List (Int × Int) → List (Int × Int)
  | [] => [x]
  | y :: l => if leP x y then x :: y :: l else y :: insP x l
def psort : List (Int × Int) → List (Int × Int)
  | [] => []
  | x :: l => insP x (psort l)
theorem insP_perm (x : Int × Int) : ∀ l : List (Int × Int), (insP x l).Perm (x :: l)
  | [] => List.Perm.refl _
  | y :: l => by
    unfold insP
    split
    · exact List.Perm.refl _
    · exact ((insP_perm x l).cons y).trans (List.Perm.swap x y l)
theorem psort_perm : ∀ l : List (Int × Int), (psort l).Perm l
  | [] => List.Perm.refl _
  | x :: l => (insP_perm x _).trans ((psort_perm l).cons x)
theorem leP_total {p q : Int × Int} (h : ¬ leP p q) : leP q p := by unfold leP at *; omega
theorem leP_trans {p q r : Int × Int} (h : leP p q) (h2 : leP q r) : leP p r := by unfold leP at *; omega
theorem leP_anti {p q : Int × Int} (h : leP p q) (h2 : leP q p) : p = q := by unfold leP at *; apply Prod.ext <;> omega
theorem insP_sorted (x : Int × Int) : ∀ l : List (Int × Int), l.Pairwise leP → (insP x l).Pairwise leP
  | [], _ => List.pairwise_singleton _ _
  | y :: l, h => by
    have h' := List.pairwise_cons.mp h
    unfold insP
    split
    · rename_i hxy
      refine List.pairwise_cons.mpr ⟨fun z hz => ?_, h⟩
      rcases List.mem_cons.mp hz with e | hz
      · subst e; exact hxy
      · exact leP_trans hxy (h'.1 z hz)
    · rename_i hxy
      refine List.pairwise_cons.mpr ⟨fun z hz => ?_, insP_sorted x l h'.2⟩
      rcases List.mem_cons.mp ((insP_perm x l).mem_iff.mp hz) with e | hz
      · subst e; exact leP_total hxy
      · exact h'.1 z hz
theorem psort_sorted : ∀ l : List (Int × Int), (psort l).Pairwise leP
  | [] => .nil
  | x :: l => insP_sorted x _ (psort_sorted l)
theorem psort_one : ∀ {l m : List (Int × Int)}, l.Perm m → l.Pairwise leP → m.Pairwise leP → l = m
  | [], m, p, _, _ => (p.symm.eq_nil).symm
  | x :: l, [], p, _, _ => absurd p.eq_nil (by simp)
  | x :: l, y :: m, p, hl, hm => by
    have hl' := List.pairwise_cons.mp hl
    have hm' := List.pairwise_cons.mp hm
    have e : x = y := by
      have h1 : x ∈ y :: m := p.mem_iff.mp (by simp)
      have h2 : y ∈ x :: l := p.mem_iff.mpr (by simp)
      rcases List.mem_cons.mp h1 with e | h1
      · exact e
      · rcases List.mem_cons.mp h2 with e | h2
        · exact e.symm
        · exact leP_anti (hl'.1 y h2) (hm'.1 x h1)
    subst e
    rw [psort_one (p.cons_inv) hl'.2 hm'.2]
def sortedAD : List D → Option D
  | [.list xs] => match intsD xs with
    | some ns => some (.list ((isort ns).map .int))
    | none => (pairsD xs).map fun ps => .list ((psort ps).map dP)
  | _ => none
theorem pairsD_map : ∀ {xs : List D} {ps : List (Int × Int)}, pairsD xs = some ps → xs = ps.map dP
  | [], _, h => by simp [pairsD] at h; subst h; rfl
  | x :: xs, ps, h => by
    unfold pairsD at h
    split at h
    · rename_i e; cases e
    · rename_i i j r e
      injection e with e1 e2
      subst e1 e2
      rw [Option.map_eq_some_iff] at h
      obtain ⟨qs, hq, rfl⟩ := h
      rw [pairsD_map hq]; rfl
    · cases h
section
variable {K : PySem.W.Frag} {H : Hp} {S : Addr → Prop}
theorem pairs_keys {k : V → Int × Int} : ∀ {xs : List V} {ps : List (Int × Int)}, RepAll K H S xs (ps.map dP) → (∀ x ∈ xs, ∀ t p, x = V.ref t → SqT K H t [.int (p : Int × Int).1, .int p.2] → k x = p) → xs.map k = ps ∧ (∀ x ∈ xs, Rep K H S x (dP (k x))) ∧ ∀ x ∈ xs, ∃ t p, x = V.ref t ∧ SqT K H t [.int (p : Int × Int).1, .int p.2]
  | [], [], _, _ => ⟨rfl, by simp, by simp⟩
  | [], _ :: _, h, _ => by cases h
  | _ :: _, [], h, _ => by cases h
  | x :: xs, p :: ps, h, hk => by
    cases h with
    | cons r t =>
      obtain ⟨h1, h2, h3⟩ := pairs_keys t fun y hy => hk y (by simp [hy])
      obtain ⟨a, ys, rfl, ra, _, al⟩ := Rep.toTup r
      have e : ys = [.int p.1, .int p.2] := by
        cases al with
        | cons r1 t1 => cases t1 with
          | cons r2 t2 => cases t2; rw [r1.toInt, r2.toInt]
      subst e
      have hx := hk _ (by simp) a p rfl (sqT_of ra)
      refine ⟨by simp [hx, h1], fun y hy => ?_, fun y hy => ?_⟩
      · rcases List.mem_cons.mp hy with e | hy
        · subst e; rw [hx]; exact r
        · exact h2 y hy
      · rcases List.mem_cons.mp hy with e | hy
        · subst e; exact ⟨a, p, rfl, sqT_of ra⟩
        · exact h3 y hy
theorem pairs_refs : ∀ {xs : List V} {ps : List (Int × Int)}, RepAll K H S xs (ps.map dP) → ∀ x ∈ xs, ∃ t p, x = V.ref t ∧ SqT K H t [.int (p : Int × Int).1, .int p.2]
  | [], [], _ => by simp
  | [], _ :: _, h => by cases h
  | _ :: _, [], h => by cases h
  | x :: xs, p :: ps, h => by
    cases h with
    | cons r t =>
      obtain ⟨a, ys, rfl, ra, _, al⟩ := Rep.toTup r
      have e : ys = [.int p.1, .int p.2] := by
        cases al with
        | cons r1 t1 => cases t1 with
          | cons r2 t2 => cases t2; rw [r1.toInt, r2.toInt]
      subst e
      intro y hy
      rcases List.mem_cons.mp hy with e | hy
      · subst e; exact ⟨a, p, rfl, sqT_of ra⟩
      · exact pairs_refs t y hy
theorem repAll_of {k : V → Int × Int} : ∀ {ys : List V}, (∀ x ∈ ys, Rep K H S x (dP (k x))) → RepAll K H S ys ((ys.map k).map dP)
  | [], _ => .nil
  | y :: ys, h => .cons (h y (by simp)) (repAll_of fun x hx => h x (by simp [hx]))
end
section
variable {X : Cx}
def maxAD : List D → Option D
  | [.list xs] => (intsD xs).bind fun ns => (maxI ns).map .int
  | [.tuple xs] => (intsD xs).bind fun ns => (maxI ns).map .int
  | [.dict [(.none, .tuple xs)]] => (intsD xs).bind fun ns => (maxI ns).map .int
  | _ => none
end
end G7

set_option maxRecDepth 100000
namespace G7
open PySem PySem.Spec PyProof.Rows L2
section
variable {prog : Program} {w : World} {A : Around} {E : Value → Shared → Prop} {s : Shared} {d r : Addr} {o : Obj} {es : Array DictEntry} {ep : Nat}
theorem walks_raw (hh : A.handled = none) (I d : Addr) (hne : d ≠ I) (hdat : o.data = .dict es ep) :
    Walks prog w A I [I, d] [I] es.size (fun i v => ∃ en, es[i]? = some en ∧ v = en.key) (fun i h => h.IsKeyIter I d i es.size ep ∧ h.get? d = some o) where
  sub := fun b hb => by simp at hb; simp [hb]
  frame := fun _ _ _ st hk => ⟨st.1.at fun o e => hk I (by simp) o e, hk d (by simp) _ st.2⟩
  item := fun i s Q E hi st hQ => by
    obtain ⟨en, hen⟩ : ∃ en, es[i]? = some en := ⟨es[i], by simp [hi]⟩
    refine next_key_item st.1 st.2 hdat rfl hen fun h' hit' sb => ?_
    exact hQ en.key h' s.toks ⟨en, hen, rfl⟩ ⟨hit', (sb.2 d hne).trans st.2⟩ fun b o hb e => (sb.2 b (fun h => hb (by simp [h]))).trans e
  done := fun s Q E st hQ => next_key_end hh st.1 st.2 hdat rfl (Nat.le_refl _) fun h' he' => hQ h' s.toks fun b o hb e => he' b o (fun h => hb (by simp [h])) e
  self := fun _ _ _ _ st hQ => wpAny_pyIter_keyiter st.1 hQ
theorem kdr_dict (lo : (d == sysModules) = false) (hx : o.ExactDict) (hdat : o.data = .dict es ep) :
    PySem.W.KdlSrc prog w "dict" d d es.size (fun i v => ∃ en, es[i]? = some en ∧ v = en.key) (fun h => h.get? d = some o) where
  type := fun _ hm => ⟨o, hm, hx.1⟩
  there := fun _ hm => ⟨Heap.lt_size hm, Heap.lt_size hm⟩
  keep := fun _ _ hm hk => hk d (.inl rfl) o hm
  notList := by decide
  notTuple := by decide
  hint := fun _ _ _ _ hm hq => PySem.W.kdl_hint_dict ⟨o, hm, hx.1⟩ hq
  iter := fun _ _ hh hm => ⟨_, _, (fun _ _ hq => iter_keys lo hm hx hdat hq), walks_raw hh _ d (Nat.ne_of_lt (Heap.lt_size hm)) hdat, ⟨⟨_, Heap.get?_push_size _ rfl, rfl, rfl⟩, Heap.get?_push_of_some _ hm⟩⟩
theorem iter_keysV {v : Addr} {Q : Value → Shared → Prop} (hv : PySem.W.KdlKeysView s.heap v d) (ho : s.heap.get? d = some o) (hdat : o.data = .dict es ep)
    (hQ : Q (.ref s.heap.objs.size) { s with heap := s.heap.push { cls := .type "dict_keyiterator", data := .fields #[.ref d, .int 0 0, .int es.size 0, .int ep 0] } }) :
    wpAny (model prog w) A (pyIter (.ref v)) Q E s := by
  obtain ⟨ov, hov, hcv, hdv⟩ := id hv
  refine wpAny_pyIter_slot hv.typeIs PySem.W.kdl_slot_keys_iter (wpAny_call_entry PySem.W.kdl_slot_keys_iter hv.typeIs PySem.W.kdl_entry_keys_iter ?_ (PySem.W.kdl_args_keys_iter _))
  unfold Builtin.«dict_keys.__iter__»
  refine wpAny_bind (wpAny_pure ?_)
  refine wpAny_bind ?_
  unfold Builtin.Dict_items.dictOf
  refine wpAny_bind (wpAny_field hov hdv (x := .ref d) rfl (wpAny_pure ?_))
  refine wpAny_bind ?_
  unfold Builtin.Dict_items.newIterator
  refine wpAny_bind (wpAny_dictEntries ho hdat ?_)
  refine wpAny_bind (wpAny_dictEpoch ho hdat ?_)
  have hown : Builtin.Dict_items.ownsTuple "dict_keyiterator" = false := by decide
  simp only [hown, Bool.false_eq_true, if_false]
  refine wpAny_newObj_type (wpAny_pure ⟨_, rfl, "dict_keyiterator", _, ⟨_, Heap.get?_push_size _ rfl, rfl⟩, PySem.F.slot_dict_keyiterator_next.lookup, ?_⟩)
  simpa [rawInt] using hQ
theorem kdr_keys (hx : o.ExactDict) (hdat : o.data = .dict es ep) :
    PySem.W.KdlSrc prog w "dict_keys" r d es.size (fun i v => ∃ en, es[i]? = some en ∧ v = en.key) (fun h => PySem.W.KdlKeysView h r d ∧ h.get? d = some o) where
  type := fun _ hm => hm.1.typeIs
  there := fun _ hm => ⟨let ⟨_, ho, _⟩ := hm.1; Heap.lt_size ho, Heap.lt_size hm.2⟩
  keep := fun _ _ hm hk => ⟨let ⟨o, ho, x⟩ := hm.1; ⟨o, hk r (.inl rfl) o ho, x⟩, hk d (.inr rfl) o hm.2⟩
  notList := by decide
  notTuple := by decide
  hint := fun _ _ _ _ hm hq => PySem.W.kdl_hint_keys hm.1.typeIs hq
  iter := fun _ _ hh hm => ⟨_, _, (fun _ _ hq => iter_keysV hm.1 hm.2 hdat hq), walks_raw hh _ d (Nat.ne_of_lt (Heap.lt_size hm.2)) hdat, ⟨⟨_, Heap.get?_push_size _ rfl, rfl, rfl⟩, Heap.get?_push_of_some _ hm.2⟩⟩
end
/-- the view d.keys() at p -/
def keysO (p d : Addr) : HO := .ext fun h => PySem.W.KdlKeysView h p d
section
variable {X : Cx}
/-- a dict with tuple keys, or the view of its keys -/
def SrcT (H : Hp) (p : Addr) (kvs : List (List L2.Key × V)) : Prop := H p = some (.dT kvs) ∨ ∃ a, H p = some (keysO p a) ∧ H a = some (.dT kvs)
theorem kt_addrs {H : Hp} : ∀ {kvs : List (List L2.Key × V)} {xs : List (List L2.Key × Addr × Value)}, KT H kvs xs → Paired (fun kv q => H q = some (.tup (kv.1.map kV))) kvs (xs.map (·.2.1))
  | [], [], _ => .nil
  | _ :: _, _ :: _, .cons h t => .cons h.2.1 (kt_addrs t)
/-- its keys' addresses -/
theorem SrcT.at' {P : Program} {w : World} {H : Hp} {h : Heap} {p : Addr} {kvs : List (List L2.Key × V)} (g : SrcT H p kvs) (ok : HOk P w H h) : ∃ (T : String) (d : Addr) (n : Nat) (Pv : Nat → Value → Prop) (OK : Heap → Prop) (qs : List Addr),
    PySem.W.KdlSrc P w T p d n Pv OK ∧ OK h ∧ n = qs.length ∧ n ≤ sizeLine ∧ (∀ i v, Pv i v → ∃ q, qs[i]? = some q ∧ v = .ref q) ∧ Paired (fun kv q => H q = some (.tup (kv.1.map kV))) kvs qs := by
  have core : ∀ {d : Addr}, H d = some (.dT kvs) → ∃ (o : Obj) (es : Array DictEntry) (ep : Nat) (qs : List Addr), kvs.length ≤ sizeLine ∧ (d == sysModules) = false ∧ h.get? d = some o ∧ o.ExactDict ∧ o.data = .dict es ep ∧ es.size = qs.length ∧ es.size ≤ sizeLine ∧
      (∀ (i : Nat) en, es[i]? = some en → ∃ q, qs[i]? = some q ∧ en.key = .ref q) ∧ Paired (fun kv q => H q = some (.tup (kv.1.map kV))) kvs qs := by
    intro d hd
    obtain ⟨z, hs, xs, rel, o, es, ep, ho, hx, hdat, he, _⟩ := dt_of ok hd
    refine ⟨o, es, ep, xs.map (·.2.1), z, hs, ho, hx, hdat, ?_, ?_, fun i en hen => ?_, ?_⟩
    · rw [size_of_entries he, List.length_map]
    · have l1 : kvs.length = xs.length := Paired.length rel
      rw [size_of_entries he, ← l1]; exact z
    · rw [entry_at he i] at hen
      obtain ⟨x, hx1, rfl⟩ := Option.map_eq_some_iff.mp hen
      exact ⟨x.2.1, by rw [List.getElem?_map, hx1]; rfl, rfl⟩
    · exact kt_addrs rel
  rcases g with g | ⟨a, g1, g2⟩
  · obtain ⟨o, es, ep, qs, z, hs, ho, hx, hdat, e1, e2, e3, e4⟩ := core g
    exact ⟨_, _, _, _, _, qs, kdr_dict hs hx hdat, ho, e1, e2, fun i v ⟨en, h1, h2⟩ => by obtain ⟨q, h3, h4⟩ := e3 i en h1; exact ⟨q, h3, h2.trans h4⟩, e4⟩
  · obtain ⟨o, es, ep, qs, z, hs, ho, hx, hdat, e1, e2, e3, e4⟩ := core g2
    have view : PySem.W.KdlKeysView h p a := (show ObjOk P w H h p (keysO p a) from ok p _ g1).1
    exact ⟨_, _, _, _, _, qs, kdr_keys hx hdat, ⟨view, ho⟩, e1, e2, fun i v ⟨en, h1, h2⟩ => by obtain ⟨q, h3, h4⟩ := e3 i en h1; exact ⟨q, h3, h2.trans h4⟩, e4⟩
theorem acc_refs {Pv : Nat → Value → Prop} {acc : Array Value} {n : Nat} {qs : List Addr} (hn : n = qs.length) (h : ItemsOf Pv acc n) (hp : ∀ i v, Pv i v → ∃ q, qs[i]? = some q ∧ v = .ref q) : acc.toList = qs.map Value.ref := by
  refine List.ext_getElem (by rw [Array.length_toList, h.1, List.length_map, hn]) fun i h1 h2 => ?_
  have := h.2 i acc.toList[i] (by rw [← Array.getElem?_toList, List.getElem?_eq_getElem h1])
  obtain ⟨q, e1, e2⟩ := hp i _ this
  rw [e2, List.getElem_map]
  rw [List.length_map] at h2
  rw [List.getElem?_eq_getElem h2] at e1
  rw [Option.some.inj e1]
/-- sorted(d), sorted(d.keys()): keys that are pairs of numbers -/
def rSortedT2 : List V → Hp → VK → Prop := fun vs H Q => ∃ (p : Addr) (kvs : List (List L2.Key × V)) (ps : List (Int × Int)), vs = [.ref p] ∧ SrcT H p kvs ∧ kvs.map (·.1) = ps.map (fun p => [.inl p.1, .inl p.2]) ∧
  ∀ (xs ys : List V) (l : Addr) (k : V → Int × Int), (∀ x ∈ xs, ∃ q, x = .ref q ∧ H q = some (.tup [.int (k x).1, .int (k x).2])) → xs.map k = ps → SrtO.Srtd (ltP k) ys → SrtO.Stb (ltP k) ys xs → ys.length ≤ sizeLine → H l = none → Q (.ref l) (upd H l (.lst ys))
open Classical in
noncomputable def keyQ (H : Hp) (v : V) : Int × Int := if h : ∃ (p : Int × Int) (t : Addr), v = V.ref t ∧ H t = some (.tup [.int p.1, .int p.2]) then Classical.choose h else (0, 0)
theorem keyQ_eq {H : Hp} {t : Addr} {p : Int × Int} (e : H t = some (.tup [.int p.1, .int p.2])) : keyQ H (.ref t) = p := by
  have h : ∃ (p : Int × Int) (t' : Addr), V.ref t = V.ref t' ∧ H t' = some (.tup [.int p.1, .int p.2]) := ⟨p, t, rfl, e⟩
  unfold keyQ
  rw [dif_pos h]
  obtain ⟨t2, e2, h2⟩ := Classical.choose_spec h
  cases e2
  rw [e] at h2
  have := Option.some.inj h2
  injection this with this
  injection this with h1 h2
  injection h2 with h2 _
  injection h1 with h1
  injection h2 with h2
  exact Prod.ext h1.symm h2.symm
theorem cr_sortedT2 (hc : X.calm = true) : CallR X (.builtin "sorted") rSortedT2 := by
  intro pins s σ H vs us Q I r h
  obtain ⟨p, kvs, ps, rfl, g, hks, q⟩ := h
  obtain rfl := Vals.ref1 r
  obtain ⟨T, d, n, Pv, OK, qs, K, hok, hn, hz, hP, hpr⟩ := g.at' I.hok
  have hq : ∀ {l : List (List L2.Key × V)} {qs : List Addr} {ps : List (Int × Int)}, Paired (fun kv q => H q = some (.tup (kv.1.map kV))) l qs → l.map (·.1) = ps.map (fun p => [.inl p.1, .inl p.2]) →
      (∀ x ∈ qs.map V.ref, ∃ q, x = .ref q ∧ H q = some (.tup [.int (keyQ H x).1, .int (keyQ H x).2])) ∧ (qs.map V.ref).map (keyQ H) = ps := by
    intro l qs ps hpr
    induction hpr generalizing ps with
    | nil => intro e; cases ps with
      | nil => exact ⟨by simp, rfl⟩
      | cons => simp at e
    | @cons kv q l qs h1 _ ih =>
      intro e
      cases ps with
      | nil => simp at e
      | cons p ps =>
        simp only [List.map_cons, List.cons.injEq] at e
        obtain ⟨i1, i2⟩ := ih e.2
        rw [e.1] at h1
        have h1 : H q = some (.tup [.int p.1, .int p.2]) := h1
        refine ⟨fun x hx => ?_, ?_⟩
        · rw [List.map_cons, List.mem_cons] at hx
          rcases hx with rfl | hx
          · exact ⟨q, rfl, by rw [keyQ_eq h1]; exact h1⟩
          · exact i1 x hx
        · rw [List.map_cons, List.map_cons, keyQ_eq h1, i2]
  obtain ⟨hx, hps⟩ := hq hpr hks
  have q := fun ys l => q (qs.map V.ref) ys l (keyQ H) hx hps
  generalize keyQ H = k at hx q
  refine Calls.call_function_entry PyProof.Rows.kind_sorted PyProof.Rows.plain_sorted PyProof.Rows.entry_sorted (PyProof.Rows.args_sorted1 _) ?_
  unfold Builtin.«sorted»
  refine wpAny_bind (m := checkCount "sorted" 1 1 _) (wpAny_pure ?_)
  refine wpAny_bind (PySem.W.kdu_collect (A := X.A.in1) K (I.ok.hd hc) hok hz fun h' tk acc hk hacc => ?_)
  have e := acc_refs hn hacc hP
  rw [e]
  have I1 : Inv X pins σ H { s with heap := h', toks := tk } := I.kept hk
  have hlen : (qs.map Value.ref).length ≤ sizeLine := by rw [List.length_map, ← hn]; exact hz
  refine wpAny_bind (wpAny_newList ?_ hlen)
  have hoL : (h'.push (seqObj "list" (qs.map Value.ref).toArray 0)).get? h'.objs.size = some (seqObj "list" (qs.map Value.ref).toArray 0) := Heap.get?_push_size _ rfl
  show wpAny _ _ _ _ _ { s with heap := h'.push (seqObj "list" (qs.map Value.ref).toArray 0), toks := tk }
  have hpair : ∀ v ∈ qs.map Value.ref, Srt.IsPair (h'.push (seqObj "list" (qs.map Value.ref).toArray 0)) v (k (backV v)).1 (k (backV v)).2 := by
    intro v hv
    obtain ⟨b, hb, rfl⟩ := List.mem_map.mp hv
    obtain ⟨b', e1, h1⟩ := hx (.ref b) (List.mem_map.mpr ⟨b, hb, rfl⟩)
    cases e1
    obtain ⟨_, its2, r2, ot, hot, hct, nt, hdt⟩ := (show ObjOk X.prog X.w H h' b (.tup [.int (k (.ref b)).1, .int (k (.ref b)).2]) from I1.hok _ _ h1)
    obtain ⟨u1, u2, rfl, ri, rj⟩ := vals2 r2
    obtain ⟨t1, rfl⟩ := ri
    obtain ⟨t2, rfl⟩ := rj
    exact ⟨b, ot, t1, t2, nt, rfl, Heap.get?_push_of_some _ hot, hct, hdt⟩
  refine wpAny_bind (wpAny_holding (wpAny_call_entry slot_list_sort ⟨_, hoL, rfl⟩ entry_list_sort
    (SrtO.list_sort_ord (s := { s with heap := h'.push (seqObj "list" (qs.map Value.ref).toArray 0), toks := tk }) (SrtO.swo_lex fun u => k (backV u)) hoL hlen (fun h2 => ?_) fun out hs hb => ⟨_, rfl, ?_⟩) (args_list_sort _)))
  · refine SrtO.pairs_sortableO (by omega) hpair fun o e => ?_
    have e' : some o = some (seqObj "list" (qs.map Value.ref).toArray 0) := e.symm.trans hoL
    cases e'
    intro c
    exact absurd (Value.type.inj c) (by decide)
  · have hr : ∀ u ∈ out, ∃ a, u = Value.ref a := fun u hu => by
      obtain ⟨b, _, rfl⟩ := List.mem_map.mp (hb.perm.mem_iff.mp hu); exact ⟨b, rfl⟩
    have hb' : SrtO.Stb (ltP k) (out.map backV) (qs.map V.ref) := by
      have := SrtO.Stb.map (ltP_swo k) backV hb
      rwa [List.map_map] at this
    obtain ⟨e', he'⟩ := PyProof.Rows.sortedHeap_at (vs := qs.map Value.ref) (out := out.toArray) hoL
    have hlo : (out.map backV).length ≤ sizeLine := by rw [hb'.len, List.length_map, ← hn]; exact hz
    refine wpAny_pure ⟨_, rfl, .ref h'.objs.size, upd H h'.objs.size (.lst (out.map backV)), I1.laid (t' := tk) (fun b u e => ?_) (Nat.le_refl _)
      (show ObjOk X.prog X.w _ _ _ (.lst (out.map backV)) from ⟨hlo, out, e', vals_back hr, he'⟩), rfl, q _ _ (SrtO.srtd_map hs) hb' hlo (I1.hok.fresh (Nat.le_refl _))⟩
    have hb : b < h'.objs.size := Heap.lt_size e
    rw [PyProof.Rows.sortedHeap_old (Nat.ne_of_lt hb) (by rw [size_push']; exact Nat.lt_succ_of_lt hb)]
    exact Heap.get?_push_of_some _ e
end
end G7

set_option maxRecDepth 100000
namespace G7
open PySem PySem.Spec PyProof.Rows L2
end G7

set_option maxRecDepth 100000
namespace G7
open PySem PySem.Spec PyProof.Rows L2
def keysOf : List D → Option (List Key)
  | [] => some []
  | d :: r => (keyOf d).bind fun k => (keysOf r).map (k :: ·)
def keyT : D → Option (List Key)
  | .tuple ds => keysOf ds
  | _ => none
theorem keyOf_kD (k : Key) : keyOf (kD k) = some k := by cases k <;> rfl
theorem keysOf_kD : ∀ ks : List Key, keysOf (ks.map kD) = some ks
  | [] => rfl
  | k :: ks => by simp [keysOf, keyOf_kD, keysOf_kD ks]
/-- a key that is looked up or laid -/
def keyTR0 : D → Option (List Key)
  | .tuple [] => if tupX = true then some [] else none
  | d => keyT d
def keyTR : D → Option (List Key)
  | .dict [(.bool true, .tuple ds)] => keysOf ds
  | d => (keyTR0 d).bind fun k => if keyLen k.length = true then some k else none
theorem keyTR_t (ds : List D) : keyTR (.tuple ds) = (keyTR0 (.tuple ds)).bind fun k => if keyLen k.length = true then some k else none := rfl
theorem keyTR_0 {ds : List D} {k : List Key} (h : keyTR (.tuple ds) = some k) : keyTR0 (.tuple ds) = some k ∧ keyLen k.length = true := by
  rw [keyTR_t] at h
  obtain ⟨k', h1, h2⟩ := Option.bind_eq_some_iff.mp h
  split at h2
  · next c => cases h2; exact ⟨h1, c⟩
  · cases h2
theorem keysOf_len : ∀ {ds : List D} {k : List Key}, keysOf ds = some k → k.length = ds.length
  | [], k, h => by simp [keysOf] at h; subst h; rfl
  | d :: ds, k, h => by
    simp only [keysOf, Option.bind_eq_some_iff, Option.map_eq_some_iff] at h
    obtain ⟨a, _, r, hr, rfl⟩ := h
    simp [keysOf_len hr]
theorem keyTR_T {ds : List D} {k : List Key} (h : keyTR (.tuple ds) = some k) : keysOf ds = some k ∧ frzOk0 ds = false := by
  have h := (keyTR_0 h).1
  cases ds with
  | nil =>
    simp only [keyTR0] at h
    split at h
    · next c => cases h; exact ⟨rfl, by simp [frzOk0, c]⟩
    · cases h
  | cons d r =>
    simp only [keyTR0, keyT] at h
    refine ⟨h, ?_⟩
    cases d <;> first | rfl | (simp [keysOf, keyOf] at h)
theorem keyT_tD (k : List Key) : keyT (tD k) = some k := keysOf_kD k
def keyTB (k : List Key) (d : D) : Bool := decide (keyT d = some k)
theorem keyTB_tD (k k' : List Key) : keyTB k (tD k') = decide (k' = k) := by simp [keyTB, keyT_tD]
/-- a dict with tuple keys -/
abbrev dTD (m : List (D × D)) : D := .dict ((.none, .none) :: m)
def lookTD (m : List (D × D)) (k : List Key) : Option D := (m.find? fun p => keyTB k p.1).map (·.2)
def putTD (m : List (D × D)) (k : List Key) (v : D) : List (D × D) := if (m.any fun p => keyTB k p.1) = true then m.map (fun p => if keyTB k p.1 = true then (p.1, v) else p) else m ++ [(tD k, v)]
section
variable {K : PySem.W.Frag} {H : Hp} {S : Addr → Prop}
theorem any_keysT (k : List Key) : ∀ {kvs : List (List Key × V)} {ds : List D}, (kvs.length = ds.length) → (((kvs.map fun p => tD p.1).zip ds).any fun p => keyTB k p.1) = kvs.any fun kv => decide (kv.1 = k)
  | [], _, _ => by simp
  | p :: kvs, [], h => by simp at h
  | p :: kvs, d :: ds, h => by
    have := any_keysT k (kvs := kvs) (ds := ds) (by simpa using h)
    simp only [List.map_cons, List.zip_cons_cons, List.any_cons, keyTB_tD, this]
theorem put_repT {k : List Key} {v : V} {d : D} (rv : Rep K H S v d) {kvs : List (List Key × V)} {ds : List D} (al : RepAll K H S (kvs.map (·.2)) ds) :
    ∃ ds', RepAll K H S ((putK kvs k v).map (·.2)) ds' ∧ ((putK kvs k v).map fun p => tD p.1).zip ds' = putTD ((kvs.map fun p => tD p.1).zip ds) k d := by
  have hl : kvs.length = ds.length := by simpa using al.length
  unfold putK putTD
  rw [any_keysT k hl]
  by_cases h : (kvs.any fun kv => decide (kv.1 = k)) = true
  · rw [if_pos h, if_pos h]
    have key : ∀ {kvs : List (List Key × V)} {ds : List D}, RepAll K H S (kvs.map (·.2)) ds → ∃ ds', RepAll K H S ((kvs.map fun kv => if kv.1 = k then (kv.1, v) else kv).map (·.2)) ds' ∧ ((kvs.map fun kv => if kv.1 = k then (kv.1, v) else kv).map fun p => tD p.1).zip ds' = ((kvs.map fun p => tD p.1).zip ds).map fun p => if keyTB k p.1 = true then (p.1, d) else p := by
      intro kvs
      induction kvs with
      | nil => intro ds al; cases al; exact ⟨[], .nil, rfl⟩
      | cons p kvs ih =>
        intro ds al
        cases al with
        | @cons _ _ d0 _ r t =>
          obtain ⟨ds', h1, h2⟩ := ih t
          by_cases e : p.1 = k
          · refine ⟨d :: ds', ?_, ?_⟩
            · simp only [List.map_cons, if_pos e]; exact .cons rv h1
            · simp only [List.map_cons, List.zip_cons_cons, if_pos e, keyTB_tD, h2]; simp [e]
          · refine ⟨d0 :: ds', ?_, ?_⟩
            · simp only [List.map_cons, if_neg e]; exact .cons r h1
            · simp only [List.map_cons, List.zip_cons_cons, if_neg e, keyTB_tD, h2]; simp [e]
    exact key al
  · rw [if_neg h, if_neg h]
    refine ⟨ds ++ [d], ?_, ?_⟩
    · rw [List.map_append]; exact al.append (.cons rv .nil)
    · rw [List.map_append, List.zip_append (by simpa using hl)]; rfl
end
theorem pairsD_dP0 : ∀ ps : List (Int × Int), pairsD (ps.map dP) = some ps
  | [] => rfl
  | p :: ps => by simp [pairsD, dP, pairsD_dP0 ps]
def dinTD : D → D → Option D
  | y, .dict ((.none, .none) :: m) => (keyTR y).map fun k => .bool (lookTD m k).isSome
  | _, _ => none
def dninTD : D → D → Option D
  | y, .dict ((.none, .none) :: m) => (keyTR y).map fun k => .bool (!(lookTD m k).isSome)
  | _, _ => none
def wDputT (i : Nat) (v ix : WE) : WS := fun W e => v e fun y e1 => (∃ m, e1[i]? = some (some (dTD m))) ∧ ix e1 fun j e2 => ∃ k m, keyTR j = some k ∧ e2[i]? = some (some (dTD m)) ∧ m.length < lim ∧ W.nx (e2.set i (some (dTD (putTD m k y))))
section
variable {K : PySem.W.Frag} {H : Hp} {S : Addr → Prop} {a : Addr}
theorem dT_zip {kvs : List (Key × V)} {ds : List D} {m : List (D × D)} (h : (kvs.map fun p => kD p.1).zip ds = (.none, .none) :: m) : False := by
  cases kvs with
  | nil => simp at h
  | cons p kvs => cases ds with
    | nil => simp at h
    | cons d ds =>
      simp at h
      have := h.1.1
      cases hp : p.1 <;> rw [hp] at this <;> cases this
theorem Rep.toDT {v : V} {m : List (D × D)} (r : Rep K H S v (dTD m)) : ∃ a kvs ds, v = .ref a ∧ ¬ S a ∧ H a = some (.dT kvs) ∧ RepAll K H S (kvs.map (·.2)) ds ∧ m = (kvs.map fun p => tD p.1).zip ds := by
  unfold dTD at r
  generalize hd : PyData.dict ((.none, .none) :: m) = d at r
  cases r with
  | dK n r al => exact (dT_zip (PyData.dict.inj hd).symm).elim
  | dT n r al => exact ⟨_, _, _, rfl, n, r, al, (List.cons.inj (PyData.dict.inj hd)).2⟩
  | xt n r e z al => exact absurd (Prod.mk.inj (List.cons.inj (PyData.dict.inj hd)).1).2 (by simp)
  | _ => cases hd
theorem ObjR.toDT {m : List (D × D)} (r : ObjR K H S a (dTD m)) : ∃ kvs ds, H a = some (.dT kvs) ∧ RepAll K H S (kvs.map (·.2)) ds ∧ m = (kvs.map fun p => tD p.1).zip ds := by
  unfold dTD at r
  generalize hd : PyData.dict ((.none, .none) :: m) = d at r
  cases r with
  | dK r al => exact (dT_zip (PyData.dict.inj hd).symm).elim
  | dT r al => exact ⟨_, _, r, al, (List.cons.inj (PyData.dict.inj hd)).2⟩
  | lst => cases hd
theorem RdB.toDT {v : V} {m : List (D × D)} (r : RdB K H S v (dTD m)) : ∃ a kvs ds, v = .ref a ∧ H a = some (.dT kvs) ∧ RepAll K H S (kvs.map (·.2)) ds ∧ m = (kvs.map fun p => tD p.1).zip ds := by
  rcases r with r | ⟨a, rfl, r⟩
  · obtain ⟨a, kvs, ds, e, _, h⟩ := r.toDT; exact ⟨a, kvs, ds, e, h⟩
  · obtain ⟨kvs, ds, h⟩ := r.toDT; exact ⟨a, kvs, ds, rfl, h⟩
theorem keysOf_v : ∀ {ds : List D} {vs : List V} {ks : List Key}, RepAll K H S vs ds → keysOf ds = some ks → vs = ks.map kV
  | [], _, _, .nil, h => by simp [keysOf] at h; subst h; rfl
  | d :: ds, v :: vs, ks, .cons r t, h => by
    simp only [keysOf, Option.bind_eq_some_iff, Option.map_eq_some_iff] at h
    obtain ⟨k, hk, ks', hks, rfl⟩ := h
    rw [List.map_cons, ← keysOf_v t hks, keyOf_v (.inl r) hk]
theorem keyT_v {y : V} {d : D} {k : List Key} (hF : KeySafe) (r : RdB K H S y d) (h : keyTR d = some k) : ∃ b, y = .ref b ∧ H b = some (.tup (k.map kV)) := by
  unfold keyTR at h
  split at h
  · rename_i ds
    have r : Rep K H S y (ktD ds) := r.elim id fun ⟨_, _, q⟩ => q.noKt.elim
    obtain ⟨a, xs, rfl, n, e, z, al⟩ := r.toKt
    exact ⟨a, rfl, by rw [e, keysOf_v al h]⟩
  · cases d with
    | tuple ds =>
      have h : keyTR (.tuple ds) = some k := h
      obtain ⟨h2, hf⟩ := keyTR_T h
      obtain ⟨a, xs, rfl, n, e, z, al⟩ := r.tupRep.toTupX (by rw [← keysOf_len h2]; exact hF _ (keyTR_0 h).2) hf
      exact ⟨a, rfl, by rw [e, keysOf_v al h2]⟩
    | _ => simp [keyTR0, keyT] at h
end
section
variable {X : Cx} {κ : List SK} {M Me : List Nat} {k ka kb : RK} {a b e : Expr} {w wa wb : WE} {pos : Pos}
theorem se_dnewT : SE X κ M .nw (.Dict [] [] pos) (wC (dTD [])) := SE.of pe_dnewT fun σ H Q ⟨g, env, W, F, hw, post⟩ => fun p np => by
  refine post _ _ (g.add p) env _ (F.new np) (.new np) ⟨p, rfl, np, .inr rfl, fun q => F.own_ne (F.p_own q) np, ?_⟩ hw
  have := Obj1.dT (K := X.K) (H := upd H p (.dT [])) (S := (g.add p).own) (a := p) (kvs := []) (ds := []) upd_same .nil
  exact this
/-- d[k] = v, an own dict with tuple keys -/
theorem ss_dputT {i : Nat} {x : Str} {px spos : Pos} {ix : Expr} {kx rk : RK} {wx : WE} (hu : X.A.units + 1 < cLine) (ho : PE X (.Name x px) (tVar i)) (hv : SE X κ Me .fz e w) (hx : SE X κ Me kx ix wx) (hk : kindOf κ i = .o ∨ kindOf κ i = .q) (px' : kx.rdable = true := by rfl) (hi : i ∈ M := by decide) (sub : ∀ i ∈ Me, i ∈ M := by decide)
    (hs : swapsWith e (some (.Subscript (.Name x px) ix spos)) pos.line X.env = pure false := by rfl) (hF : KeySafe := by exact fun n h => by first | rfl | cases h | (cases (show n = 2 from eq_of_beq h); rfl)) : SS X κ M rk (.Assign [.Subscript (.Name x px) ix spos] e pos) (wDputT i w wx) :=
  SS.of (ps_dput hu ho hx hv hs) fun D σ H ⟨g, env, W, F, hw, n, b, c, r⟩ => ⟨g, env, _, F, hw, fun v H1 g1 e1 d F1 s1 r1 ⟨⟨m0, e0⟩, w1⟩ => by
    obtain ⟨v0, sv, sl⟩ := F1.ev i _ e0
    have sl' : ∃ a, v0 = .ref a ∧ g1.al i = some a ∧ Obj1 X.K H1 g1.own a (dTD m0) := by rcases hk with hk | hk <;> rw [hk] at sl <;> exact sl
    obtain ⟨a, rfl, ea, ob⟩ := sl'
    refine ⟨_, sv, g1, e1, _, F1, w1, fun y H2 g2 e2 d2 F2 s2 r2 ⟨kk, m, ed, e3, hlen, w2⟩ => ?_⟩
    obtain ⟨q, rfl, hq⟩ := keyT_v hF (r2.rdb px') ed
    obtain ⟨v1, sv1, sl1⟩ := F2.ev i _ e3
    rw [sv] at sv1; cases sv1
    have sl1' : ∃ a', V.ref a = .ref a' ∧ g2.al i = some a' ∧ Obj1 X.K H2 g2.own a' (dTD m) := by rcases hk with hk | hk <;> rw [hk] at sl1 <;> exact sl1
    obtain ⟨a', ee, ea1, ob1⟩ := sl1'
    cases ee
    have rv : Rep X.K H2 g2.own v d := Res.step (k := .fz) (H0 := H) r1 s2 F1 rfl
    obtain ⟨kvs, ds, hp, al, rfl⟩ := ob1.r.toDT
    have hkl : kvs.length < sizeLine := by
      have := al.length
      rw [List.length_zip, List.length_map, ← this, List.length_map, Nat.min_self] at hlen
      exact Nat.lt_of_lt_of_le hlen (by rw [sizeLine_eq]; decide)
    refine ⟨a, _, rfl, DPut.t hp hq hkl, ?_⟩
    have off : ∀ b x, ¬ g2.own b → H2 b = some x → (upd H2 a (.dT (putK kvs kk v))) b = some x := fun b x n e => by
      rw [upd_ne (fun z => n (by rw [z]; exact .inr ⟨i, ea1⟩))]; exact e
    obtain ⟨ds', al', ez⟩ := put_repT (k := kk) (rv.keep off fun _ q => .inl q) (al.keep off fun _ q => .inl q)
    have ob2 : Obj1 X.K (upd H2 a (.dT (putK kvs kk v))) g2.own a (dTD (putTD ((kvs.map fun p => tD p.1).zip ds) kk d)) := by
      rw [← ez]; exact .dT upd_same al'
    have F3 := F2.put (o := .dT (putK kvs kk v)) hk ea1 sv (fun ys z => by rw [hp] at z; cases z) ob2
    have s12 := ((s1.tr s2 F F1).mono sub).tr (.put (o := .dT (putK kvs kk v)) F2 ea1 hi) F F2
    exact n g2 _ σ _ F3 (s12.toS F F3) w2⟩
def sortTD : D → Option D
  | .dict ((.none, .none) :: m) => (pairsD (m.map (·.1))).map fun ps => .list ((psort ps).map dP)
  | _ => none
theorem zip_fst {α β : Type} : ∀ {xs : List α} {ys : List β}, xs.length = ys.length → (xs.zip ys).map (·.1) = xs
  | [], [], _ => rfl
  | x :: xs, y :: ys, h => by simp [zip_fst (xs := xs) (ys := ys) (by simpa using h)]
  | [], _ :: _, h => by simp at h
  | _ :: _, [], h => by simp at h
theorem tD_pairs : ∀ {ks : List (List Key)} {ps : List (Int × Int)}, pairsD (ks.map tD) = some ps → ks = ps.map fun p => [.inl p.1, .inl p.2]
  | [], ps, h => by simp [pairsD] at h; subst h; rfl
  | k :: ks, ps, h => by
    have := pairsD_map h
    cases ps with
    | nil => simp at this
    | cons p ps =>
      simp only [List.map_cons, List.cons.injEq] at this
      obtain ⟨e1, e2⟩ := this
      have hk : k = [.inl p.1, .inl p.2] := by
        have e3 := congrArg keyT e1
        rw [keyT_tD] at e3
        exact Option.some.inj e3
      have h2 : pairsD (ks.map tD) = some ps := by rw [e2]; exact pairsD_dP0 ps
      rw [List.map_cons, ← hk, ← tD_pairs h2]
theorem sortT_go (hF : KeySafe) {κ : List SK} {g : Rg} {env : En} {σ : St} {H : Hp} {p : Addr} {kvs : List (List Key × V)} {ds : List D} {dz : D} {Q : VK} (F : Frm X.K κ g env σ H) (ha : SrcT H p kvs) (al : RepAll X.K H g.own (kvs.map (·.2)) ds) (e : sortTD (dTD ((kvs.map fun p => tD p.1).zip ds)) = some dz)
    (h : ∀ v H' g', Frm X.K κ g' env σ H' → EStep [] g g' H H' → Res X.K g' .nw H H' v dz → Q v H') : rSortedT2 [.ref p] H Q := by
  simp only [sortTD] at e
  obtain ⟨ps, e2, rfl⟩ := Option.map_eq_some_iff.mp e
  rw [zip_fst (by have := al.length; rw [List.length_map] at this; rw [List.length_map, this])] at e2
  have hks : kvs.map (·.1) = ps.map fun p => [.inl p.1, .inl p.2] := tD_pairs (by rw [List.map_map]; exact e2)
  refine ⟨p, kvs, ps, rfl, ha, hks, fun xs ys l k hx hxs hs hb hy np => ?_⟩
  have rx : ∀ x ∈ xs, Rep X.K H g.own x (dP (k x)) := fun x hm => by
    obtain ⟨q, rfl, hq⟩ := hx x hm
    exact .tup (F.own_nt hq) (.inl ⟨plOkF (hF 2 rfl), hq⟩) (by rw [sizeLine_eq]; show 2 ≤ 2 ^ 24; decide) (.cons (.int _) (.cons (.int _) .nil))
  have rz : RepAll X.K H g.own ys ((ys.map k).map dP) := repAll_of fun x hm => rx x (hb.perm.mem_iff.mp hm)
  have e : ys.map k = psort ps := by
    refine psort_one ?_ ?_ (psort_sorted ps)
    · refine (hb.perm.map k).trans ?_
      rw [hxs]; exact (psort_perm ps).symm
    · rw [List.pairwise_map]
      refine hs.imp fun {x y} hxy => ?_
      have := SrtO.lexB_no.mp hxy
      unfold leP
      omega
  rw [e] at rz
  exact ok_lstN F rz hy np h
def sortTLD : List D → Option D
  | [d] => sortTD d
  | _ => none
theorem sortTD_f {d z : D} (h : sortTD d = some z) : ∃ m, d = dTD m := by
  unfold sortTD at h
  split at h
  · exact ⟨_, rfl⟩
  · cases h
theorem bd_sortT (hF : KeySafe := by exact fun n h => by first | rfl | cases h | (cases (show n = 2 from eq_of_beq h); rfl)) : BlD X.K rSortedT2 sortTLD .nw := by
  intro κ g env σ H vs ds dz Q F r e h
  match ds, e with
  | [d], e =>
    obtain ⟨m, rfl⟩ := sortTD_f e
    obtain ⟨v, rfl, rx⟩ := rda1 r
    obtain ⟨a, kvs, ds, rfl, ha, al, rfl⟩ := rx.toDT
    exact sortT_go hF F (.inl ha) al e h
/-- sorted(d.keys()) -/
def wKeysT (i : Nat) : WE := fun e Q => ∃ m z, e[i]? = some (some (dTD m)) ∧ sortTD (dTD m) = some z ∧ Q z e
def tupRevD : D → Option D
  | .list xs => some (.tuple xs.reverse)
  | _ => none
def removeF (xs ys : List D) : Option (D × List D) := match ys with
  | [.int k] => (intsD xs).bind fun ns => if k ∈ ns then some (.none, (ns.erase k).map .int) else none
  | _ => none
def lenTD : List D → Option D
  | [.dict ((.none, .none) :: m)] => some (.int m.length)
  | _ => none
end
end G7

set_option maxRecDepth 100000
namespace G7
open PySem PySem.Spec PyProof.Rows L2
end G7

set_option maxRecDepth 100000
namespace G7
open PySem PySem.Spec PyProof.Rows L2
open Sem (wp)
theorem enum_len {xs : List D} : (enumD xs).length = xs.length := by
  unfold enumD
  rw [zip_len, rangeD_len]; omega
theorem enum_get {xs : List D} {i : Nat} {x : D} (h : xs[i]? = some x) : (enumD xs)[i]? = some (.tuple [.int (i : Int), x]) := by
  have hi := (List.getElem?_eq_some_iff.mp h).1
  refine zip_get ?_ h
  rw [rangeD_get (by omega)]; simp
end G7

set_option maxRecDepth 100000
namespace G7
open PySem PySem.Spec PyProof.Rows L2
def wPar (i j : Nat) (a : WA) : WS := fun W e => a e fun ds e1 => ∃ x y, ds = [x, y] ∧ W.nx ((e1.set i (some x)).set j (some y))
theorem ss_par {X : Cx} {κ : List SK} {M Me : List Nat} {k : RK} {i j : Nat} {x y : Str} {a b : Expr} {wl : WA} {px py pt pos : Pos} {kt k2 pt2} (hc : X.calm = true) (hN : X.N.Nodup) (hi : X.N[i]? = some x) (hj : X.N[j]? = some y) (hij : i ≠ j)
    (hx : X.env.scope.names.lookup x = some .local) (hy : X.env.scope.names.lookup y = some .local) (ha : SA X κ Me [.fz, .fz] [a, b] wl) (hki : kindOf κ i = .v) (hkj : kindOf κ j = .v)
    (hw : swappedStores [.Tuple [.Name x px, .Name y py] kt pt] (.Tuple [a, b] k2 pt2) X.env = pure (some [x, y]))
    (hs : swapsWithSole [.Tuple [.Name x px, .Name y py] kt pt] (.Tuple [a, b] k2 pt2) pos.line X.env = pure false := by rfl) (sub : ∀ i ∈ Me, i ∈ M := by decide) :
    SS X κ M k (.Assign [.Tuple [.Name x px, .Name y py] kt pt] (.Tuple [a, b] k2 pt2) pos) (wPar i j wl) :=
  SS.of (ps_par hc hN hi hj hij hx hy ha hw hs) fun D σ H ⟨g, env, W, F, hw, n, b, c, r⟩ => ⟨g, env, _, F, hw, fun vs H1 g1 e1 ds F1 s1 r1 ⟨d1, d2, ed, w1⟩ => by
    subst ed
    match vs, r1 with
    | [v, u], ⟨q1, q2, _⟩ =>
      exact ⟨v, u, rfl, n g1 _ _ H1 ((F1.set (by rw [hki]; exact q1)).set (by rw [hkj]; exact q2)) ((s1.mono sub).toS F F1) w1⟩⟩
theorem i_par {i j : Nat} {a : WA} {nx bk ct : En → Prop} {rt : D → En → Prop} {e : En} (k : a e fun ds e1 => ∃ x y, ds = [x, y] ∧ nx ((e1.set i (some x)).set j (some y))) : wPar i j a ⟨nx, rt, bk, ct⟩ e := k
section
variable {X : Cx} {κ : List SK} {M : List Nat} {a b c d : Expr} {pos : Pos} {ta tb tc td : TE} {ka kb kc kd : RK} {wa wb wc wd : WE}
def tChain3 (r r' r'' : R2) (ta tb tc td : TE) : TE := fun σ H Q => ta σ H fun x H1 => tb σ H1 fun y H2 => r x y H2 fun z H3 => ∃ k, z = .bl k ∧
  (if k = true then (tc σ H3 fun u H4 => r' y u H4 fun z H5 => ∃ k, z = .bl k ∧ (if k = true then td σ H5 fun w' H6 => r'' u w' H6 Q else Q (.bl false) H5)) else Q (.bl false) H3)
theorem pt_chain3 {op op' op'' : CmpOp} {r r' r'' : R2} (ho : OpR X (compareOp op) r) (ho' : OpR X (compareOp op') r') (ho'' : OpR X (compareOp op'') r'') (ha : PE X a ta) (hb : PE X b tb) (hc : PE X c tc) (hd : PE X d td)
    (hm : lastMarks [op, op', op''] [b, c, d] = false := by with_unfolding_all rfl) : PT X (.Compare a [op, op', op''] [b, c, d] pos) (tTest (tChain3 r r' r'' ta tb tc td)) := by
  refine ⟨fun pins s σ H Q I h => ?_⟩
  refine isTrue_chain (thn (ha.run pins s σ H _ I h) fun v s1 ⟨x, H1, I1, r1, q1⟩ => test_link (thn (hb.run pins s1 σ H1 _ I1 q1) fun u s2 ⟨y, H2, I2, r2, q2⟩ =>
    thn (ho pins s2 σ H2 x y v u _ I2 r1 r2 q2) fun d s3 ⟨z, H3, I3, r3, k, e, q3⟩ => ?_)) hm
  subst e
  cases r3
  refine wpAny_truthy_bool ?_
  cases k with
  | false =>
    obtain ⟨k', e', q'⟩ := q3
    cases e'
    exact ite_ff ⟨H3, I3, q'⟩
  | true =>
    refine ite_tt (test_link (thn (hc.run pins s3 σ H3 _ I3 q3) fun w' s4 ⟨z', H4, I4, r4, q4⟩ => thn (ho' pins s4 σ H4 y z' u w' _ I4 r2 r4 q4) fun d s5 ⟨z, H5, I5, r5, k, e, q5⟩ => ?_))
    subst e
    cases r5
    refine wpAny_truthy_bool ?_
    cases k with
    | false =>
      obtain ⟨k', e', q'⟩ := q5
      cases e'
      exact ite_ff ⟨H5, I5, q'⟩
    | true =>
      refine ite_tt (test_last (thn (hd.run pins s5 σ H5 _ I5 q5) fun w2 s6 ⟨z2, H6, I6, r6, q6⟩ => thn (ho'' pins s6 σ H6 z' z2 w' w2 _ I6 r4 r6 q6) fun d s7 ⟨z, H7, I7, r7, k, e, q7⟩ => ?_))
      subst e
      cases r7
      exact wpAny_truthy_bool ⟨H7, I7, q7⟩
theorem chain_go3 {r r' r'' : R2} {f f' f'' : D → D → Option D} (hf : OpD X.K r f .fz) (hf' : OpD X.K r' f' .fz) (hf'' : OpD X.K r'' f'' .fz) (ma : stable ka M = true) (mb : stable kb M = true) (mc : stable kc M = true) (pa : ka.rdable = true) (pb : kb.rdable = true) (pc : kc.rdable = true) (pd : kd.rdable = true) (σ : St) (H : Hp) (Q : VK)
    (h : cE X.K κ M .fz (wChain3 f f' f'' wa wb wc wd) σ H Q) : tChain3 r r' r'' (cE X.K κ M ka wa) (cE X.K κ M kb wb) (cE X.K κ M kc wc) (cE X.K κ M kd wd) σ H Q := by
  obtain ⟨g, env, W, F, hw, post⟩ := h
  refine ⟨g, env, _, F, hw, fun x H1 g1 e1 d1 F1 s1 r1 w1 => ⟨g1, e1, _, F1, w1, fun y H2 g2 e2 d2 F2 s2 r2 w2 => ?_⟩⟩
  obtain ⟨kk, ek, w2⟩ := w2
  have s12 := s1.tr s2 F F1
  refine hf κ g2 e2 σ H2 x y d1 d2 _ _ F2 ((r1.step s2 F1 ma).rdb pa) (r2.rdb pb) ek fun v H3 g3 F3 s3 r3 => ⟨kk, r3.toBl, ?_⟩
  have s3' : EStep M g2 g3 H2 H3 := s3.mono fun _ q => nomatch q
  have s123 := s12.tr s3' F F2
  cases kk with
  | false => exact post _ H3 g3 e2 _ F3 s123 (.bl false) w2
  | true =>
    refine ⟨g3, e2, _, F3, w2, fun z H4 g4 e4 d4 F4 s4 r4 w4 => ?_⟩
    obtain ⟨k2, er, w4⟩ := w4
    have s1234 := s123.tr s4 F F3
    refine hf' κ g4 e4 σ H4 y z d2 d4 _ _ F4 (((r2.step s3' F2 mb).step s4 F3 mb).rdb pb) (r4.rdb pc) er fun u H5 g5 F5 s5 r5 => ⟨k2, r5.toBl, ?_⟩
    have s5' : EStep M g4 g5 H4 H5 := s5.mono fun _ q => nomatch q
    have s12345 := s1234.tr s5' F F4
    cases k2 with
    | false => exact post _ H5 g5 e4 _ F5 s12345 (.bl false) w4
    | true =>
      refine ⟨g5, e4, _, F5, w4, fun z2 H6 g6 e6 d6 F6 s6 r6 w6 => ?_⟩
      obtain ⟨rr, er2, w6⟩ := w6
      refine hf'' κ g6 e6 σ H6 z z2 d4 d6 rr Q F6 (((r4.step s5' F4 mc).step s6 F5 mc).rdb pc) (r6.rdb pd) er2 fun u2 H7 g7 F7 s7 r7 => ?_
      exact post u2 H7 g7 e6 rr F7 ((s12345.tr s6 F F5).tr (s7.mono fun _ q => nomatch q) F F6) r7 w6
theorem st_chain3 {op op' op'' : CmpOp} {r r' r'' : R2} {f f' f'' : D → D → Option D} (ho : OpR X (compareOp op) r) (hf : OpD X.K r f .fz) (ho' : OpR X (compareOp op') r') (hf' : OpD X.K r' f' .fz) (ho'' : OpR X (compareOp op'') r'') (hf'' : OpD X.K r'' f'' .fz) (ha : SE X κ M ka a wa) (hb : SE X κ M kb b wb) (hc : SE X κ M kc c wc) (hd : SE X κ M kd d wd)
    (hm : lastMarks [op, op', op''] [b, c, d] = false := by with_unfolding_all rfl) (ma : stable ka M = true := by rfl) (mb : stable kb M = true := by rfl) (mc : stable kc M = true := by rfl) (pa : ka.rdable = true := by rfl) (pb : kb.rdable = true := by rfl) (pc : kc.rdable = true := by rfl) (pd : kd.rdable = true := by rfl) : ST X κ M (.Compare a [op, op', op''] [b, c, d] pos) (tVal (wChain3 f f' f'' wa wb wc wd)) :=
  ST.of (pt_chain3 ho ho' ho'' ha hb hc hd hm) fun σ H Q ⟨g, env, W, F, hw, post⟩ => chain_go3 hf hf' hf'' ma mb mc pa pb pc pd σ H _ ⟨g, env, _, F, hw, fun v H' g' env' d F' s r ⟨b, e, wb⟩ => by
    subst e
    exact ⟨b, r.toBl, post b H' g' env' F' s wb⟩⟩
end

end G7

set_option maxRecDepth 100000
namespace G7
open PySem PySem.Spec PyProof.Rows L2
section
variable {prog : Program} {w : World} {A : Around} {E : Value → Shared → Prop} {s : Shared}
theorem collect_tupG {q : Addr} {us : List Value} {R : List Value → Shared → Prop} (ht : s.heap.IsTuple q us.toArray) (le : us.length ≤ sizeLine)
    (fin : R us { s with heap := (s.heap.push (seqObj "list" #[] 0)).update s.heap.objs.size (Obj.mapSeq (· ++ us.toArray)) }) :
    wpAny (model prog w) A (collect (.ref q)) R E s := by
  obtain ⟨ob, e0, ec, m, ed⟩ := id ht
  unfold collect
  refine wpAny_bind (wpAny_runValue (codeAny_builtin entry_proto_collect' ?_))
  show wpAny _ _ (do again (.builtin "list.__iadd__" ⟨[← newList [], .ref q], []⟩)) _ _ s
  refine wpAny_bind (wpAny_newList (wpAny_pure ⟨Code.quiet_builtin _ (by decide +kernel), codeAny_builtin entry_list_iadd' ?_⟩))
  show wpAny _ _ (Builtin.List.listExtendWith (.ref s.heap.objs.size) (.ref q) (.ref s.heap.objs.size)) _ _ { s with heap := s.heap.push (seqObj "list" #[] 0) }
  unfold Builtin.List.listExtendWith
  have e1 : (s.heap.push (seqObj "list" #[] 0)).get? q = some ob := Heap.get?_push_of_some _ e0
  have tt : (Value.type "tuple" == Value.type "tuple") = true := by rfl
  refine wpAny_bind (wpAny_typeOf (T := "tuple") ⟨ob, e1, ec⟩ ?_)
  rw [if_pos (by rw [tt]; simp)]
  refine wpAny_bind (listItems_at e1 ed ?_)
  refine wpAny_bind (listItems_at (xs := #[]) (n := 0) (Heap.get?_push_size _ rfl) rfl ?_)
  rw [if_neg (by simp)]
  have le2 : (#[] ++ us.toArray).size ≤ sizeLine + 1 := by simp only [Array.size_append, List.size_toArray, List.length_nil]; omega
  refine wpAny_bind (listUpdate_at (xs := #[]) (n := 0) (Heap.get?_push_size _ rfl) rfl ?_ (Nat.zero_le _) le2)
  refine wpAny_pure ?_
  show wpAny (model prog w) A (do
      let o ← load s.heap.objs.size
      match o.data with
      | .seq xs _ => pure xs.toList
      | _ => unsupported "internal:collect") R E { s with heap := (s.heap.push (seqObj "list" #[] 0)).update s.heap.objs.size (Obj.mapSeq (· ++ us.toArray)) }
  refine wpAny_bind (wpAny_load (get?_update_seq (Heap.get?_push_size _ rfl) _) ?_)
  show wpAny _ _ (pure ((#[] : Array Value) ++ us.toArray).toList) R E _
  rw [show ((#[] : Array Value) ++ us.toArray).toList = us by simp]
  exact wpAny_pure fin
theorem sorted_tupO {q : Addr} {us : List Value} {lt : Value → Value → Bool} {R : Value → Shared → Prop} (O : SrtO.Swo lt) (ht : s.heap.IsTuple q us.toArray) (le : us.length ≤ sizeLine)
    (can : 2 ≤ us.length → ∀ (g : Heap) (c : Addr), g.get? c = some (seqObj "list" us.toArray 0) → (∀ b o, s.heap.get? b = some o → b ≠ c ∧ g.get? b = some o) → SrtO.SortableO prog w A.in1.in1 { s with heap := g } c us lt)
    (fin : ∀ out : List Value, SrtO.Srtd lt out → SrtO.Stb lt out us → R (.ref (s.heap.objs.size + 1)) { s with heap := sortedAll s.heap us out.toArray }) :
    wpAny (model prog w) A (call (.builtin "sorted") [.ref q]) R E s := by
  refine Calls.call_function_entry kind_sorted plain_sorted entry_sorted (args_sorted1 _) ?_
  unfold Builtin.«sorted»
  refine wpAny_bind (m := checkCount "sorted" 1 1 _) (wpAny_pure ?_)
  refine wpAny_bind (collect_tupG ht le ?_)
  refine wpAny_bind (wpAny_newList ?_ le)
  have e1 : ((s.heap.push (seqObj "list" #[] 0)).update s.heap.objs.size (Obj.mapSeq (· ++ us.toArray))).objs.size = s.heap.objs.size + 1 := by
    rw [Heap.size_update, size_push']
  have e2 : (((s.heap.push (seqObj "list" #[] 0)).update s.heap.objs.size (Obj.mapSeq (· ++ us.toArray))).push (seqObj "list" us.toArray 0)).get? (s.heap.objs.size + 1) = some (seqObj "list" us.toArray 0) := by
    rw [← e1]; exact Heap.get?_push_size _ rfl
  have old : ∀ b o, s.heap.get? b = some o → b ≠ s.heap.objs.size + 1 ∧ (((s.heap.push (seqObj "list" #[] 0)).update s.heap.objs.size (Obj.mapSeq (· ++ us.toArray))).push (seqObj "list" us.toArray 0)).get? b = some o := fun b o z => by
    have lb : b < s.heap.objs.size := Heap.lt_size z
    have z2 : ((s.heap.push (seqObj "list" #[] 0)).update s.heap.objs.size (Obj.mapSeq (· ++ us.toArray))).get? b = some o := by
      rw [Heap.get?_update_ne _ _ _ _ (Nat.ne_of_lt lb)]
      exact Heap.get?_push_of_some _ z
    exact ⟨Nat.ne_of_lt (Nat.lt_succ_of_lt lb), Heap.get?_push_of_some _ z2⟩
  show wpAny _ _ _ _ _ { s with heap := ((s.heap.push (seqObj "list" #[] 0)).update s.heap.objs.size (Obj.mapSeq (· ++ us.toArray))).push (seqObj "list" us.toArray 0) }
  rw [e1]
  refine wpAny_bind (wpAny_holding (wpAny_call_entry slot_list_sort ⟨_, e2, rfl⟩ entry_list_sort (SrtO.list_sort_ord O e2 le (fun h2 => can h2 _ _ e2 old) fun out k1 k2 => ⟨_, rfl, ?_⟩) (args_list_sort _)))
  exact wpAny_pure ⟨_, rfl, fin out k1 k2⟩
theorem sorted_tupP {q : Addr} {us : List Value} {k : Value → Int × Int} {R : Value → Shared → Prop} (ht : s.heap.IsTuple q us.toArray) (le : us.length ≤ sizeLine) (hp : ∀ v ∈ us, Srt.IsPair s.heap v (k v).1 (k v).2)
    (fin : ∀ (g : Heap) (d : Addr) (out : List Value), SrtO.Srtd (fun v u => SrtO.lexB (k v) (k u)) out → SrtO.Stb (fun v u => SrtO.lexB (k v) (k u)) out us → (∀ b o, s.heap.get? b = some o → g.get? b = some o) → s.heap.objs.size ≤ d → (∃ n, g.get? d = some (seqObj "list" out.toArray n)) → R (.ref d) { s with heap := g }) :
    wpAny (model prog w) A (call (.builtin "sorted") [.ref q]) R E s := by
  refine sorted_tupO (SrtO.swo_lex k) ht le (fun h2 g c e kk => ?_) fun out k1 k2 => fin _ _ out k1 k2 (fun b o z => PyProof.Rows.sortedAll_old z) (Nat.le_succ _) (PyProof.Rows.sortedAll_at s.heap us out.toArray)
  refine SrtO.pairs_sortableO (s := { s with heap := g }) (by omega) (fun v hm => (hp v hm).keeps fun b o e _ => (kk b o e).2) fun o e' => ?_
  rw [e] at e'
  cases e'
  exact fun z => absurd (Value.type.inj z) (by decide)
end
def rSortedPT (K : PySem.W.Frag) : List V → Hp → VK → Prop := fun vs H Q => ∃ (a : Addr) (xs : List V), vs = [V.ref a] ∧ SqT K H a xs ∧ xs.length ≤ sizeLine ∧ (∀ x ∈ xs, ∃ t p, x = V.ref t ∧ SqT K H t [.int (p : Int × Int).1, .int p.2]) ∧
  ∀ k : V → Int × Int, (∀ x ∈ xs, ∀ t p, x = V.ref t → SqT K H t [.int (p : Int × Int).1, .int p.2] → k x = p) → ∀ ys p, SrtO.Srtd (ltP k) ys → SrtO.Stb (ltP k) ys xs → H p = none → Q (.ref p) (upd H p (.lst ys))
theorem cr_sortedPT {X : Cx} : CallR X (.builtin "sorted") (rSortedPT X.K) := by
  intro pins s σ H vs us Q I r h
  obtain ⟨a, xs, rfl, hs, hz, hx, q⟩ := h
  have hk : ∀ v t p, v = V.ref t → SqT X.K H t [.int (p : Int × Int).1, .int p.2] → keyP X.K H v = p := by
    intro v t p e ht
    have h : ∃ p t, v = V.ref t ∧ SqT X.K H t [.int (p : Int × Int).1, .int p.2] := ⟨p, t, e, ht⟩
    unfold keyP
    rw [dif_pos h]
    obtain ⟨t2, e2, h2⟩ := Classical.choose_spec h
    have e3 := V.ref.inj (e.symm.trans e2)
    rw [← e3] at h2
    have := I.tuple_inj h2 ht
    injection this with h1 h2
    injection h2 with h2 _
    injection h1 with h1
    injection h2 with h2
    exact Prod.ext h1 h2
  have q := q (keyP X.K H) fun x _ t p e ht => hk x t p e ht
  generalize keyP X.K H = k at hk q
  obtain ⟨its, rv, hl, _⟩ := I.tuple hs
  obtain ⟨u, rfl, ru⟩ := vals1 r
  obtain rfl : u = Value.ref a := ru
  obtain ⟨e1, e2⟩ := refs_back rv fun x m => by
    obtain ⟨t, p, e, _⟩ := hx x m
    exact ⟨t, e⟩
  refine sorted_tupP (k := fun u => k (backV u)) hl (by rw [← rv.length]; exact hz) (fun v hv => ?_) fun h' d out h1 h2 kp hd hn => ?_
  · obtain ⟨t, rfl⟩ := e2 v hv
    have hm : V.ref t ∈ xs := by rw [e1]; exact List.mem_map.mpr ⟨_, hv, rfl⟩
    obtain ⟨t', p, e, ht⟩ := hx _ hm
    cases e
    have hkt : k (backV (Value.ref t)) = p := hk _ t p rfl ht
    obtain ⟨its2, r2, ⟨o, ho, hc, n, hd⟩, _⟩ := I.tuple ht
    obtain ⟨u1, u2, rfl, ri, rj⟩ := vals2 r2
    obtain ⟨t1, rfl⟩ := ri
    obtain ⟨t2, rfl⟩ := rj
    rw [hkt]
    exact ⟨t, o, t1, t2, n, rfl, ho, hc, hd⟩
  · have h3 : ∀ u ∈ out, ∃ a, u = Value.ref a := fun u hu => e2 u (h2.perm.mem_iff.mp hu)
    obtain ⟨n, hn⟩ := hn
    have hb : SrtO.Stb (ltP k) (out.map backV) xs := by
      rw [e1]
      exact SrtO.Stb.map (ltP_swo k) backV h2
    refine ⟨.ref d, upd H d (.lst (out.map backV)), I.laid (t' := s.toks) kp hd ⟨?_, out, n, vals_back h3, hn⟩, rfl, q _ d (SrtO.srtd_map h1) hb (I.hok.fresh hd)⟩
    rw [hb.len]
    exact hz
def sortedTD : List D → Option D
  | [.tuple xs] => (pairsD xs).map fun ps => .list ((psort ps).map dP)
  | _ => none
theorem bd_sortedT {K : PySem.W.Frag} : BlD K (rSortedPT K) sortedTD .nw := by
  intro κ g env σ H vs ds dz Q F r e h
  match ds, e with
  | [.tuple xs], e =>
    simp only [sortedTD, Option.map_eq_some_iff] at e
    obtain ⟨ps, e3, rfl⟩ := e
    obtain ⟨v, rfl, rx⟩ := rda1 r
    obtain ⟨a, ys, rfl, ra, za, la⟩ := rx.toTup
    have := pairsD_map e3
    subst this
    refine ⟨a, ys, rfl, sqT_of ra, za, pairs_refs la, fun k hk zs p hs hb np => ?_⟩
    obtain ⟨h1, h2, _⟩ := pairs_keys la hk
    have rz : RepAll K H g.own zs ((zs.map k).map dP) := repAll_of fun x hx => h2 x (hb.perm.mem_iff.mp hx)
    have e : zs.map k = psort ps := by
      refine psort_one ?_ ?_ (psort_sorted ps)
      · refine (hb.perm.map k).trans ?_
        rw [h1]; exact (psort_perm ps).symm
      · rw [List.pairwise_map]
        refine hs.imp fun {x y} hxy => ?_
        have := SrtO.lexB_no.mp hxy
        unfold leP
        omega
    rw [e] at rz
    exact ok_lstN F rz (by rw [hb.len]; exact za) np h
end G7

set_option maxRecDepth 100000
namespace G7
open PySem PySem.Spec PyProof.Rows L2
section
variable {X : Cx} {Wx : WX} {κ : List SK} {M Me N : List Nat} {k : RK} {e tg iter : Expr} {w : WE} {s : WS} {wi : WI} {f : WG} {ts : List Nat} {pos : Pos}
/-- name = what may raise -/
theorem ssx_set {i : Nat} {x : Str} {pos' : Pos} (hN : X.N.Nodup) (hi : X.N[i]? = some x) (hx : Loc X.env.scope x) (he : SEX X Wx κ Me .fz e w) (hk : kindOf κ i = .v) (hs : swapsWith e (some (.Name x pos')) pos.line X.env = pure false := by rfl) (sub : ∀ i ∈ Me, i ∈ M := by decide)
    (hf : X.fn x = true ∨ X.env.scope.names.lookup x = some .local := by first | exact .inl rfl | exact .inr rfl | assumption) : SSX X Wx κ M k (.Assign [.Name x pos'] e pos) (wAsgX i w) :=
  SSX.of (ps_set hN hi hx he hs hf) fun D σ H ⟨g, env, W, F, hw, n, b, c, r, x⟩ => ⟨g, env, _, F, hw, fun v H1 g1 e1 d F1 s1 r1 w1 =>
    n g1 _ _ H1 (F1.set (by rw [hk]; exact r1)) ((s1.mono sub).toS F F1) (w1.2 fun cn e => by subst e; exact Rep.noEx r1), fun H1 g1 e1 cn C F1 s1 w1 hC => x g1 e1 σ H1 cn C F1 ((s1.mono sub).toS F F1) (w1.1 cn rfl) hC⟩
end
end G7

namespace G7
namespace K04
open PySem
/-- _law_kinds(e): slots 0 e:v, 1 kinds:v; modes ['fz']; answer fz -/
def wb_l_kinds : WS :=
  (wSeq (wAsg 1 (wList (waCons (wIsEx [("RillError", false), ("TooMany", true), ("There", false), ("NoTie", false), ("NoSpring", false), ("NoMouth", false), ("Apart", false), ("SamePlace", false), ("NoText", false), ("NoRow", false), ("NoPlace", false), ("NoFall", false), ("NoPast", false)] 0) (waCons (wIsEx [("RillError", false), ("TooMany", false), ("There", true), ("NoTie", false), ("NoSpring", false), ("NoMouth", false), ("Apart", false), ("SamePlace", false), ("NoText", false), ("NoRow", false), ("NoPlace", false), ("NoFall", false), ("NoPast", false)] 0) (waCons (wIsEx [("RillError", false), ("TooMany", false), ("There", false), ("NoTie", true), ("NoSpring", false), ("NoMouth", false), ("Apart", false), ("SamePlace", false), ("NoText", false), ("NoRow", false), ("NoPlace", false), ("NoFall", false), ("NoPast", false)] 0) (waCons (wIsEx [("RillError", false), ("TooMany", false), ("There", false), ("NoTie", false), ("NoSpring", true), ("NoMouth", false), ("Apart", false), ("SamePlace", false), ("NoText", false), ("NoRow", false), ("NoPlace", false), ("NoFall", false), ("NoPast", false)] 0) waNil))))))
    (wSeq (wAsg 1 (wOp2 addD (wVar 1) (wList (waCons (wIsEx [("RillError", false), ("TooMany", false), ("There", false), ("NoTie", false), ("NoSpring", false), ("NoMouth", true), ("Apart", false), ("SamePlace", false), ("NoText", false), ("NoRow", false), ("NoPlace", false), ("NoFall", false), ("NoPast", false)] 0) (waCons (wIsEx [("RillError", false), ("TooMany", false), ("There", false), ("NoTie", false), ("NoSpring", false), ("NoMouth", false), ("Apart", true), ("SamePlace", false), ("NoText", false), ("NoRow", false), ("NoPlace", false), ("NoFall", false), ("NoPast", false)] 0) (waCons (wIsEx [("RillError", false), ("TooMany", false), ("There", false), ("NoTie", false), ("NoSpring", false), ("NoMouth", false), ("Apart", false), ("SamePlace", true), ("NoText", false), ("NoRow", false), ("NoPlace", false), ("NoFall", false), ("NoPast", false)] 0) (waCons (wIsEx [("RillError", false), ("TooMany", false), ("There", false), ("NoTie", false), ("NoSpring", false), ("NoMouth", false), ("Apart", false), ("SamePlace", false), ("NoText", true), ("NoRow", false), ("NoPlace", false), ("NoFall", false), ("NoPast", false)] 0) waNil)))))))
    (wSeq (wAsg 1 (wOp2 addD (wVar 1) (wList (waCons (wIsEx [("RillError", false), ("TooMany", false), ("There", false), ("NoTie", false), ("NoSpring", false), ("NoMouth", false), ("Apart", false), ("SamePlace", false), ("NoText", false), ("NoRow", true), ("NoPlace", false), ("NoFall", false), ("NoPast", false)] 0) (waCons (wIsEx [("RillError", false), ("TooMany", false), ("There", false), ("NoTie", false), ("NoSpring", false), ("NoMouth", false), ("Apart", false), ("SamePlace", false), ("NoText", false), ("NoRow", false), ("NoPlace", true), ("NoFall", false), ("NoPast", false)] 0) (waCons (wIsEx [("RillError", false), ("TooMany", false), ("There", false), ("NoTie", false), ("NoSpring", false), ("NoMouth", false), ("Apart", false), ("SamePlace", false), ("NoText", false), ("NoRow", false), ("NoPlace", false), ("NoFall", true), ("NoPast", false)] 0) (waCons (wIsEx [("RillError", false), ("TooMany", false), ("There", false), ("NoTie", false), ("NoSpring", false), ("NoMouth", false), ("Apart", false), ("SamePlace", false), ("NoText", false), ("NoRow", false), ("NoPlace", false), ("NoFall", false), ("NoPast", true)] 0) waNil)))))))
    (wRet (wOp2 addD (wVar 1) (wList (waCons (wIsEx [("RillError", true), ("TooMany", true), ("There", true), ("NoTie", true), ("NoSpring", true), ("NoMouth", true), ("Apart", true), ("SamePlace", true), ("NoText", true), ("NoRow", true), ("NoPlace", true), ("NoFall", true), ("NoPast", true)] 0) (waCons (wIsEx [("RillError", true), ("TooMany", true), ("There", true), ("NoTie", true), ("NoSpring", true), ("NoMouth", true), ("Apart", true), ("SamePlace", true), ("NoText", true), ("NoRow", true), ("NoPlace", true), ("NoFall", true), ("NoPast", true)] 0) waNil))))))))

/-- _law_apart(): slots 0 some:v, 1 k:v, 2 other:v; modes []; answer fz -/
def wb_l_apart (S_l_kinds : FS) : WS :=
  (wSeq (wAsg 0 (wList (waCons (wExc "TooMany" (wC (.str "a"))) (waCons (wExc "There" (wC (.str "b"))) (waCons (wExc "NoTie" (wC (.str "c"))) (waCons (wExc "NoSpring" (wC (.str "d"))) (waCons (wExc "NoMouth" (wC (.str "e"))) (waCons (wExc "Apart" (wC (.str "f"))) (waCons (wExc "SamePlace" (wC (.str "g"))) waNil)))))))))
    (wSeq (wAsg 0 (wOp2 addD (wVar 0) (wList (waCons (wExc "NoText" (wC (.str "h"))) (waCons (wExc "NoRow" (wC (.str "i"))) (waCons (wExc "NoPlace" (wC (.str "j"))) (waCons (wExc "NoFall" (wC (.str "k"))) (waCons (wExc "NoPast" (wC (.str "l"))) waNil))))))))
    (wSeq (wFor (wiRg1 (wC (.int 12))) (gN 1) (wIf (tVal (wOp2 neD (wCall S_l_kinds (waCons (wOp2 ixD (wVar 0) (wVar 1)) waNil)) (wOp2 addD (wComp (wiRg1 (wC (.int 12))) (gN 2) [2] G7.tYes (wOp2 eqD (wVar 2) (wVar 1))) (wList (waCons (wC (.bool true)) (waCons (wC (.bool true)) waNil)))))) (wRet (wC (.bool false))) wNil))
    (wRet (wOp2 eqD (wCall S_l_kinds (waCons (wExc "RillError" (wC (.str "m"))) waNil)) (wOp2 addD (wOp2 repLD (wList (waCons (wC (.bool false)) waNil)) (wC (.int 12))) (wList (waCons (wC (.bool true)) (waCons (wC (.bool true)) waNil)))))))))

/-- _law_pool(cell): slots 0 cell:r; modes ['rd']; answer nw -/
def wb_l_pool : WS :=
  (wRet (wList (waCons (wBlt max2D (waCons (wC (.int 0)) (waCons (wOp2 subD (wVar 0) (wOp2 powD (wC (.int 10)) (wC (.int 18)))) waNil))) (waCons (wOp2 modD (wVar 0) (wOp2 powD (wC (.int 10)) (wC (.int 18)))) (waCons (wC (.int 0)) waNil)))))

/-- _law_next(pool, base): slots 0 pool:p, 1 base:r, 2 digit:v, 3 mixed:v, 4 stir:v; modes ['pl', 'rd']; answer fz -/
def wb_l_next : WS :=
  (wSeq (wIf (tVal (wOp2 gtD (wPlIx 0) (wC (.int 0)))) (wSeq (wAsg 2 (wOp2 modD (wPlIx 0) (wVar 1)))
    (wSeq (wPlSet 0 (wOp2 fdivD (wPlIx 0) (wVar 1)))
    (wRet (wVar 2)))) wNil)
    (wSeq (wPlSet 0 (wOp2 addD (wPlIx 0) (wC (.int 1))))
    (wSeq (wAsg 3 (wOp2 modD (wOp2 addD (wPlIx 0) (wOp2 mulID (wC (.int 7919)) (wPlIx 0))) (wC (.int 1000000007))))
    (wSeq (wAsg 4 (wOp2 modD (wOp2 mulID (wOp2 addD (wVar 3) (wC (.int 11))) (wOp2 addD (wVar 3) (wC (.int 48271)))) (wC (.int 998244353))))
    (wRet (wOp2 modD (wOp2 fdivD (wOp2 modD (wOp2 mulID (wVar 4) (wVar 4)) (wC (.int 2147483647))) (wC (.int 8))) (wVar 1)))))))

/-- _law_web(pool, most): slots 0 pool:p, 1 most:r, 2 many:v, 3 way:v, 4 lack:v, 5 cut:v, 6 roots:v, 7 some:o, 8 a:v, 9 b:v, 10 chance:v, 11 lucky:v, 12 place:v; modes ['pl', 'rd']; answer fz -/
def wb_l_web (S_l_next : FS) : WS :=
  (wSeq (wAsg 2 (wOp2 addD (wC (.int 1)) (wCall S_l_next (waCons (wVar 0) (waCons (wVar 1) waNil)))))
    (wSeq (wAsg 3 (wCall S_l_next (waCons (wVar 0) (waCons (wC (.int 7)) waNil))))
    (wSeq (wAsg 4 (wOp2 addD (wC (.int 2)) (wCall S_l_next (waCons (wVar 0) (waCons (wC (.int 4)) waNil)))))
    (wSeq (wAsg 5 (wCall S_l_next (waCons (wVar 0) (waCons (wVar 2) waNil))))
    (wSeq (wAsg 6 (wComp (wiRg1 (wVar 2)) (gN 12) [12] G7.tYes (wCall S_l_next (waCons (wVar 0) (waCons (wBlt max2D (waCons (wC (.int 1)) (waCons (wVar 12) waNil))) waNil)))))
    (wSeq (wAsg 7 (wList waNil))
    (wSeq (wFor (wiRg1 (wVar 2)) (gN 8) (wFor (wiRg2 (wOp2 addD (wVar 8) (wC (.int 1))) (wVar 2)) (gN 9) (wSeq (wAsg 10 (wCall S_l_next (waCons (wVar 0) (waCons (wC (.int 6)) waNil))))
    (wSeq (wAsg 11 (wList (waCons (wOr (wOp2 eqD (wOp2 addD (wVar 8) (wC (.int 1))) (wVar 9)) (wAnd (wOp2 eqD (wVar 8) (wC (.int 0))) (wOp2 eqD (wOp2 addD (wVar 9) (wC (.int 1))) (wVar 2)))) (waCons (wOp2 ltD (wVar 10) (wOp2 addD (wVar 4) (wC (.int 3)))) (waCons (wOp2 eqD (wVar 10) (wC (.int 0))) (waCons (wOp2 eqD (wOp2 ixD (wVar 6) (wVar 9)) (wVar 8)) waNil))))))
    (wSeq (wAsg 11 (wOp2 addD (wVar 11) (wList (waCons (wAnd (wOp2 eqD (wOp2 ltD (wVar 8) (wVar 5)) (wOp2 ltD (wVar 9) (wVar 5))) (wOp2 ltD (wVar 10) (wC (.int 4)))) (waCons (wOp2 ltD (wVar 10) (wVar 4)) (waCons (wOr (wOp2 ltD (wVar 10) (wC (.int 3))) (wOp2 eqD (wOp2 ixD (wVar 6) (wVar 9)) (wVar 8))) waNil))))))
    (wIf (tAnd (tVal (wOp2 ixD (wVar 11) (wVar 3))) (tVal (wOp2 ltD (wBlt lenD (waCons (wVar 7) waNil)) (wC (.int 20))))) (wExpr (wMut 7 appendF (waCons (wTup (waCons (wVar 8) (waCons (wVar 9) waNil))) waNil))) wNil))))))
    (wRet (wTup (waCons (wVar 2) (waCons (wBlt tupD (waCons (wVar 7) waNil)) waNil)))))))))))

/-- tie_of(a, b): slots 0 a:r, 1 b:r; modes ['rd', 'rd']; answer fz -/
def wb_tie_of : WS :=
  (wRet (wTup (waCons (wBlt min2D (waCons (wVar 0) (waCons (wVar 1) waNil))) (waCons (wBlt max2D (waCons (wVar 0) (waCons (wVar 1) waNil))) waNil))))

/-- drawn_place(place, a, b): slots 0 place:r, 1 a:v, 2 b:r; modes ['rd', 'fz', 'rd']; answer fz -/
def wb_drawn_place : WS :=
  (wSeq (wIf (tVal (wOp2 eqD (wVar 0) (wVar 2))) (wRet (wVar 1)) wNil)
    (wRet (wOp2 subD (wVar 0) (wBlt intD (waCons (wOp2 gtD (wVar 0) (wVar 2)) waNil)))))

/-- drawn(web, a, b): slots 0 web:r, 1 a:v, 2 b:r, 3 found:o, 4 one:v, 5 other:v, 6 tie:v; modes ['rd', 'fz', 'rd']; answer fz -/
def wb_drawn (S_tie_of : FS) (S_drawn_place : FS) : WS :=
  (wSeq (wAsg 3 (wC (dTD [])))
    (wSeq (wFor (wiSeq (wOp2 ixD (wVar 0) (wC (.int 1)))) (gT [(gN 4), (gN 5)]) (wSeq (wAsg 6 (wCall S_tie_of (waCons (wCall S_drawn_place (waCons (wVar 4) (waCons (wVar 1) (waCons (wVar 2) waNil)))) (waCons (wCall S_drawn_place (waCons (wVar 5) (waCons (wVar 1) (waCons (wVar 2) waNil)))) waNil))))
    (wIf (tVal (wOp2 neD (wOp2 ixD (wVar 6) (wC (.int 0))) (wOp2 ixD (wVar 6) (wC (.int 1))))) (wDputT 3 (wC (.bool true)) (wVar 6)) wNil)))
    (wRet (wTup (waCons (wOp2 subD (wOp2 ixD (wVar 0) (wC (.int 0))) (wC (.int 1))) (waCons (wBlt tupD (waCons (wBlt sortTLD (waCons (wVar 3) waNil)) waNil)) waNil))))))

/-- _law_due(way, web, a, b): slots 0 way:r, 1 web:r, 2 a:r, 3 b:r, 4 pair:v, 5 kinds:o, 6 at:v, 7 tie:v; modes ['rd', 'rd', 'rd', 'rd']; answer fz -/
def wb_l_due : WS :=
  (wSeq (wAsg 4 (wTup (waCons (wBlt min2D (waCons (wVar 2) (waCons (wVar 3) waNil))) (waCons (wBlt max2D (waCons (wVar 2) (waCons (wVar 3) waNil))) waNil))))
    (wSeq (wAsg 5 (wOp2 addLD (wOp2 repLD (wList (waCons (wC (.bool false)) waNil)) (wC (.int 12))) (wList (waCons (wC (.bool true)) (waCons (wC (.bool true)) waNil)))))
    (wSeq (wIf (tVal (wOp2 eqD (wVar 0) (wC (.int 1)))) (wSeq (wIf (tVal (wOp2 inD (wVar 4) (wOp2 ixD (wVar 1) (wC (.int 1))))) (wRet (wTup (waCons (wOp2 ixD (wVar 1) (wC (.int 0))) (waCons (wBlt tupD (waCons (wComp (wiSeq (wOp2 ixD (wVar 1) (wC (.int 1)))) (gN 7) [7] (tVal (wOp2 neD (wVar 7) (wVar 4))) (wVar 7)) waNil)) waNil)))) wNil)
    (wSeq (wSetIx 5 (wC (.bool true)) (wC (.int 2)))
    (wRet (wVar 5)))) wNil)
    (wSeq (wIf (tVal (wOp2 inD (wVar 4) (wOp2 ixD (wVar 1) (wC (.int 1))))) (wSeq (wSetIx 5 (wC (.bool true)) (wC (.int 1)))
    (wRet (wVar 5))) wNil)
    (wSeq (wIf (tVal (wOp2 eqD (wBlt lenD (waCons (wOp2 ixD (wVar 1) (wC (.int 1))) waNil)) (wC (.int 20)))) (wSeq (wSetIx 5 (wC (.bool true)) (wC (.int 0)))
    (wRet (wVar 5))) wNil)
    (wSeq (wAsg 6 (wBlt lenD (waCons (wComp (wiSeq (wOp2 ixD (wVar 1) (wC (.int 1)))) (gN 7) [7] (tVal (wOp2 ltD (wVar 7) (wVar 4))) (wVar 7)) waNil)))
    (wRet (wTup (waCons (wOp2 ixD (wVar 1) (wC (.int 0))) (waCons (wOp2 addD (wOp2 addD (wSl slD (wOp2 ixD (wVar 1) (wC (.int 1))) woN (woS (wVar 6))) (wTup (waCons (wVar 4) waNil))) (wSl slD (wOp2 ixD (wVar 1) (wC (.int 1))) (woS (wVar 6)) woN)) waNil))))))))))

/-- is_tied(web, a, b): slots 0 web:r, 1 a:r, 2 b:r; modes ['rd', 'rd', 'rd']; answer fz -/
def wb_is_tied (S_tie_of : FS) : WS :=
  (wRet (wOp2 inD (wCall S_tie_of (waCons (wVar 1) (waCons (wVar 2) waNil))) (wOp2 ixD (wVar 0) (wC (.int 1)))))

/-- with_tie(web, a, b): slots 0 web:r, 1 a:r, 2 b:r; modes ['rd', 'rd', 'rd']; answer fz -/
def wb_with_tie (S_tie_of : FS) : WS :=
  (wRet (wTup (waCons (wOp2 ixD (wVar 0) (wC (.int 0))) (waCons (wBlt tupD (waCons (wBlt sortedTD (waCons (wOp2 addD (wOp2 ixD (wVar 0) (wC (.int 1))) (wTup (waCons (wCall S_tie_of (waCons (wVar 1) (waCons (wVar 2) waNil))) waNil))) waNil)) waNil)) waNil))))

/-- tied(web, a, b): slots 0 web:r, 1 a:r, 2 b:r; modes ['rd', 'rd', 'rd']; answer fz -/
def wb_tied (S_is_tied : FS) (S_with_tie : FS) : WS :=
  (wSeq (wIf (tVal (wCall S_is_tied (waCons (wVar 0) (waCons (wVar 1) (waCons (wVar 2) waNil))))) (wRaise "There") wNil)
    (wSeq (wIf (tVal (wOp2 eqD (wBlt lenD (waCons (wOp2 ixD (wVar 0) (wC (.int 1))) waNil)) (wC (.int 20)))) (wRaise "TooMany") wNil)
    (wRet (wCall S_with_tie (waCons (wVar 0) (waCons (wVar 1) (waCons (wVar 2) waNil)))))))

/-- untied(web, a, b): slots 0 web:r, 1 a:r, 2 b:r, 3 tie:v; modes ['rd', 'rd', 'rd']; answer fz -/
def wb_untied (S_is_tied : FS) (S_tie_of : FS) : WS :=
  (wSeq (wIf (tNot (tVal (wCall S_is_tied (waCons (wVar 0) (waCons (wVar 1) (waCons (wVar 2) waNil)))))) (wRaise "NoTie") wNil)
    (wRet (wTup (waCons (wOp2 ixD (wVar 0) (wC (.int 0))) (waCons (wBlt tupD (waCons (wComp (wiSeq (wOp2 ixD (wVar 0) (wC (.int 1)))) (gN 3) [3] (tVal (wOp2 neD (wVar 3) (wCall S_tie_of (waCons (wVar 1) (waCons (wVar 2) waNil))))) (wVar 3)) waNil)) waNil)))))

/-- _law_changed(way, web, a, b): slots 0 way:r, 1 web:r, 2 a:r, 3 b:r, 4 found:v, 5 e:v; modes ['rd', 'rd', 'rd', 'rd']; answer fz -/
def wb_l_changed (S_tied : FS) (S_untied : FS) (S_l_kinds : FS) : WS :=
  (wSeq (wAsg 4 (wC .none))
    (wSeq (wTryX 5 [("NoTie", (wAsg 4 (wCallH S_l_kinds 5))), ("There", (wAsg 4 (wCallH S_l_kinds 5))), ("TooMany", (wAsg 4 (wCallH S_l_kinds 5)))] (wAsgX 4 (wPick S_tied S_untied (wVar 0) (waCons (wVar 1) (waCons (wVar 2) (waCons (wVar 3) waNil))))))
    (wRet (wVar 4))))

/-- _law_sound(thing): slots 0 thing:r; modes ['rd']; answer fz -/
def wb_l_sound : WS :=
  (wRet (wAnd (wOp1 (isTD "int") (wVar 0)) (wNot (wOp1 (isTD "bool") (wVar 0)))))

/-- _law_is_web(thing): slots 0 thing:r, 1 last:v, 2 tie:v; modes ['rd']; answer fz -/
def wb_l_is_web (S_l_sound : FS) : WS :=
  (wSeq (wIf (tOr (tNot (tVal (wOp1 (isTD "tuple") (wVar 0)))) (tOr (tVal (wOp2 neD (wBlt lenD (waCons (wVar 0) waNil)) (wC (.int 2)))) (tOr (tNot (tVal (wCall S_l_sound (waCons (wOp2 ixD (wVar 0) (wC (.int 0))) waNil)))) (tNot (tVal (wOp1 (isTD "tuple") (wOp2 ixD (wVar 0) (wC (.int 1))))))))) (wRet (wC (.bool false))) wNil)
    (wSeq (wIf (tOr (tNot (tVal (wChain ltD ltD (wC (.int 0)) (wOp2 ixD (wVar 0) (wC (.int 0))) (wC (.int 10))))) (tVal (wOp2 gtD (wBlt lenD (waCons (wOp2 ixD (wVar 0) (wC (.int 1))) waNil)) (wC (.int 20))))) (wRet (wC (.bool false))) wNil)
    (wSeq (wAsg 1 (wTup (waCons (wOp1 negD (wC (.int 1))) (waCons (wOp1 negD (wC (.int 1))) waNil))))
    (wSeq (wFor (wiSeq (wOp2 ixD (wVar 0) (wC (.int 1)))) (gN 2) (wSeq (wIf (tOr (tNot (tVal (wOp1 (isTD "tuple") (wVar 2)))) (tOr (tVal (wOp2 neD (wBlt lenD (waCons (wVar 2) waNil)) (wC (.int 2)))) (tOr (tNot (tVal (wCall S_l_sound (waCons (wOp2 ixD (wVar 2) (wC (.int 0))) waNil)))) (tNot (tVal (wCall S_l_sound (waCons (wOp2 ixD (wVar 2) (wC (.int 1))) waNil))))))) (wRet (wC (.bool false))) wNil)
    (wSeq (wIf (tOr (tNot (tVal (wChain3 leD ltD ltD (wC (.int 0)) (wOp2 ixD (wVar 2) (wC (.int 0))) (wOp2 ixD (wVar 2) (wC (.int 1))) (wOp2 ixD (wVar 0) (wC (.int 0)))))) (tNot (tVal (wOp2 ltD (wVar 1) (wVar 2))))) (wRet (wC (.bool false))) wNil)
    (wAsg 1 (wVar 2)))))
    (wRet (wC (.bool true)))))))

/-- _law_number(place, a, b): slots 0 place:r, 1 a:v, 2 b:r; modes ['rd', 'fz', 'rd']; answer fz -/
def wb_l_number : WS :=
  (wSeq (wIf (tVal (wOp2 eqD (wVar 0) (wVar 2))) (wRet (wVar 1)) wNil)
    (wRet (wOp2 subD (wVar 0) (wBlt intD (waCons (wOp2 gtD (wVar 0) (wVar 2)) waNil)))))

/-- _law_due_drawn(web, a, b): slots 0 web:r, 1 a:v, 2 b:r, 3 found:o, 4 k:v, 5 one:v, 6 other:v, 7 here:v, 8 c:v, 9 d:v; modes ['rd', 'fz', 'rd']; answer fz -/
def wb_l_due_drawn (S_l_number : FS) : WS :=
  (wSeq (wAsg 3 (wList waNil))
    (wSeq (wFor (wiRg1 (wOp2 mulID (wOp2 ixD (wVar 0) (wC (.int 0))) (wOp2 ixD (wVar 0) (wC (.int 0))))) (gN 4) (wSeq (wPar 5 6 (waCons (wOp2 fdivD (wVar 4) (wOp2 ixD (wVar 0) (wC (.int 0)))) (waCons (wOp2 modD (wVar 4) (wOp2 ixD (wVar 0) (wC (.int 0)))) waNil)))
    (wSeq (wAsg 7 (wComp (wiSeq (wOp2 ixD (wVar 0) (wC (.int 1)))) (gT [(gN 8), (gN 9)]) [8, 9] G7.tYes (wTup (waCons (wCall S_l_number (waCons (wVar 8) (waCons (wVar 1) (waCons (wVar 2) waNil)))) (waCons (wCall S_l_number (waCons (wVar 9) (waCons (wVar 1) (waCons (wVar 2) waNil)))) waNil)))))
    (wIf (tAnd (tVal (wOp2 ltD (wVar 5) (wVar 6))) (tOr (tVal (wOp2 inD (wTup (waCons (wVar 5) (waCons (wVar 6) waNil))) (wVar 7))) (tVal (wOp2 inD (wTup (waCons (wVar 6) (waCons (wVar 5) waNil))) (wVar 7))))) (wExpr (wMut 3 appendF (waCons (wTup (waCons (wVar 5) (waCons (wVar 6) waNil))) waNil))) wNil))))
    (wRet (wTup (waCons (wOp2 subD (wOp2 ixD (wVar 0) (wC (.int 0))) (wC (.int 1))) (waCons (wBlt tupD (waCons (wVar 3) waNil)) waNil))))))

/-- law(script): slots 0 script:r, 1 cell:v, 2 pool:p, 3 web:v, 4 a:v, 5 b:v, 6 found:v, 7 way:v, 8 due:v; modes ['rd']; answer fz -/
def wb_law (S_l_apart : FS) (S_l_pool : FS) (S_l_web : FS) (S_l_next : FS) (S_drawn : FS) (S_l_is_web : FS) (S_l_due_drawn : FS) (S_l_due : FS) (S_l_changed : FS) : WS :=
  (wSeq (wIf (tNot (tVal (wCall S_l_apart waNil))) (wRet (wC (.bool false))) wNil)
    (wSeq (wFor (wiSeq (wOp2 addD (wList (waCons (wC (.int 0)) waNil)) (wVar 0))) (gN 1) (wSeq (wAsgP 2 (wCall S_l_pool (waCons (wVar 1) waNil)))
    (wSeq (wAsg 3 (wCall S_l_web (waCons (wVar 2) (waCons (wC (.int 9)) waNil))))
    (wIf (tVal (wOp2 gtD (wOp2 ixD (wVar 3) (wC (.int 0))) (wC (.int 1)))) (wSeq (wAsg 4 (wCall S_l_next (waCons (wVar 2) (waCons (wOp2 ixD (wVar 3) (wC (.int 0))) waNil))))
    (wSeq (wAsg 5 (wOp2 modD (wOp2 addD (wOp2 addD (wVar 4) (wC (.int 1))) (wCall S_l_next (waCons (wVar 2) (waCons (wOp2 subD (wOp2 ixD (wVar 3) (wC (.int 0))) (wC (.int 1))) waNil)))) (wOp2 ixD (wVar 3) (wC (.int 0)))))
    (wSeq (wAsg 6 (wCall S_drawn (waCons (wVar 3) (waCons (wBlt min2D (waCons (wVar 4) (waCons (wVar 5) waNil))) (waCons (wBlt max2D (waCons (wVar 4) (waCons (wVar 5) waNil))) waNil)))))
    (wSeq (wIf (tOr (tNot (tVal (wCall S_l_is_web (waCons (wVar 6) waNil)))) (tVal (wOp2 neD (wVar 6) (wCall S_l_due_drawn (waCons (wVar 3) (waCons (wBlt min2D (waCons (wVar 4) (waCons (wVar 5) waNil))) (waCons (wBlt max2D (waCons (wVar 4) (waCons (wVar 5) waNil))) waNil))))))) (wRet (wC (.bool false))) wNil)
    (wFor (wiRg1 (wC (.int 2))) (gN 7) (wSeq (wAsg 8 (wCall S_l_due (waCons (wVar 7) (waCons (wVar 3) (waCons (wVar 4) (waCons (wVar 5) waNil))))))
    (wSeq (wAsg 6 (wCall S_l_changed (waCons (wVar 7) (waCons (wVar 3) (waCons (wVar 4) (waCons (wVar 5) waNil))))))
    (wSeq (wIf (tOr (tVal (wOp2 neD (wVar 6) (wVar 8))) (tVal (wOp2 neD (wCall S_l_changed (waCons (wVar 7) (waCons (wVar 3) (waCons (wVar 5) (waCons (wVar 4) waNil))))) (wVar 8)))) (wRet (wC (.bool false))) wNil)
    (wIf (tAnd (tVal (wOp1 (isTD "tuple") (wVar 8))) (tNot (tVal (wCall S_l_is_web (waCons (wVar 6) waNil))))) (wRet (wC (.bool false))) wNil))))))))) wNil))))
    (wRet (wC (.bool true)))))

end K04
end G7

namespace G7
open PySem

section
variable {e : En} {i j : Nat} {d x y : D} {Q : D → En → Prop} {QT : Bool → En → Prop} {QA : List D → En → Prop} {QO : Option Int → En → Prop} {W : WD} {a b c : WE} {r : WA} {s t : WT} {f : D → D → Option D} {f1 : D → Option D} {fl : List D → Option D} {S : FS} {g : WG} {lo hi : WO} {p q : WS} {it : WI}
@[simp] theorem r_var : wVar i e Q = ∃ d, e[i]? = some (some d) ∧ Q d e := rfl
@[simp] theorem r_c : wC d e Q = Q d e := rfl
@[simp] theorem r_op1 : wOp1 f1 a e Q = a e fun x e1 => ∃ z, f1 x = some z ∧ Q z e1 := rfl
@[simp] theorem r_op2 : wOp2 f a b e Q = a e fun x e1 => b e1 fun y e2 => ∃ z, f x y = some z ∧ Q z e2 := rfl
@[simp] theorem r_nil : waNil e QA = QA [] e := rfl
@[simp] theorem r_cons : waCons a r e QA = a e fun x e1 => r e1 fun xs e2 => QA (x :: xs) e2 := rfl
@[simp] theorem r_list : wList r e Q = r e fun xs e1 => xs.length ≤ lim ∧ Q (.list xs) e1 := rfl
@[simp] theorem r_tup : wTup r e Q = r e fun xs e1 => xs.length ≤ lim ∧ Q (.tuple xs) e1 := rfl
@[simp] theorem r_call : wCall S r e Q = r e fun xs e1 => S xs fun r => Q r e1 := rfl
@[simp] theorem r_blt : wBlt fl r e Q = r e fun xs e1 => ∃ z, fl xs = some z ∧ Q z e1 := rfl
@[simp] theorem r_on : woN e QO = QO none e := rfl
@[simp] theorem r_os : woS a e QO = a e fun x e1 => ∃ i, x = .int i ∧ QO (some i) e1 := rfl
@[simp] theorem r_sl {h : D → Option Int → Option Int → Option D} : wSl h a lo hi e Q = a e fun x e1 => lo e1 fun l e2 => hi e2 fun u e3 => ∃ z, h x l u = some z ∧ Q z e3 := rfl
@[simp] theorem r_val : tVal a e QT = a e fun x e1 => ∃ b, x = .bool b ∧ QT b e1 := rfl
@[simp] theorem r_tand : tAnd s t e QT = s e fun b e1 => if b = true then t e1 QT else QT false e1 := rfl
@[simp] theorem r_tor : tOr s t e QT = s e fun b e1 => if b = true then QT true e1 else t e1 QT := rfl
@[simp] theorem r_tnot : tNot s e QT = s e fun b e1 => QT (!b) e1 := rfl
@[simp] theorem r_yes : G7.tYes e QT = QT true e := rfl
@[simp] theorem r_and : wAnd a b e Q = a e fun x e1 => ∃ c, x = .bool c ∧ if c = true then b e1 Q else Q (.bool false) e1 := rfl
@[simp] theorem r_or : wOr a b e Q = a e fun x e1 => ∃ c, x = .bool c ∧ if c = true then Q (.bool true) e1 else b e1 Q := rfl
@[simp] theorem r_not : wNot a e Q = a e fun x e1 => ∃ c, x = .bool c ∧ Q (.bool (!c)) e1 := rfl
@[simp] theorem r_ife : wIfE t a b e Q = t e fun c e1 => if c = true then a e1 Q else b e1 Q := rfl
@[simp] theorem r_chain {f g : D → D → Option D} : wChain f g a b c e Q = a e fun x e1 => b e1 fun y e2 => ∃ k, f x y = some (.bool k) ∧ if k = true then c e2 fun z e3 => ∃ r, g y z = some r ∧ Q r e3 else Q (.bool false) e2 := rfl
@[simp] theorem r_snil : wNil W e = W.nx e := rfl
@[simp] theorem r_seq : wSeq p q W e = p { W with nx := fun e1 => q W e1 } e := rfl
@[simp] theorem r_asg : wAsg i a W e = a e fun x e1 => W.nx (e1.set i (some x)) := rfl
@[simp] theorem r_asgp : wAsgP i a W e = a e fun d e1 => ∃ x y z : Int, d = .list [.int x, .int y, .int z] ∧ W.nx (e1.set i (some .none)) := rfl
@[simp] theorem r_asgg : wAsgG g a W e = a e fun x e1 => ∃ e2, g x e1 = some e2 ∧ W.nx e2 := rfl
@[simp] theorem r_expr : wExpr a W e = a e fun _ e1 => W.nx e1 := rfl
@[simp] theorem r_ret : wRet a W e = a e W.rt := rfl
@[simp] theorem r_retn : wRetN W e = W.rt .none e := rfl
@[simp] theorem r_if : wIf t p q W e = t e fun c e1 => if c = true then p W e1 else q W e1 := rfl
@[simp] theorem r_brk : wBreak W e = W.bk e := rfl
@[simp] theorem r_cnt : wCont W e = W.ct e := rfl
@[simp] theorem r_for : wFor it g p W e = it e fun xs e1 => forL g p W xs e1 := rfl
@[simp] theorem r_gn : gN i x e = some (e.set i (some x)) := rfl
@[simp] theorem r_gt {gs : List WG} {xs : List D} : gT gs (.tuple xs) e = gAll gs xs e := rfl
@[simp] theorem r_gnil : gAll [] [] e = some e := rfl
@[simp] theorem r_gcons {gs : List WG} {xs : List D} : gAll (g :: gs) (x :: xs) e = (g x e).bind fun e1 => gAll gs xs e1 := rfl
@[simp] theorem r_iseq {QI : List D → En → Prop} : wiSeq a e QI = a e fun x e1 => ∃ xs, seqD x = some xs ∧ QI xs e1 := rfl
@[simp] theorem r_irg1 {QI : List D → En → Prop} : wiRg1 a e QI = a e fun x e1 => ∃ n : Int, x = .int n ∧ -(lim : Int) ≤ n ∧ n ≤ (lim : Int) ∧ QI (rangeD 0 n) e1 := rfl
@[simp] theorem r_irg2 {QI : List D → En → Prop} : wiRg2 a b e QI = a e fun x e1 => b e1 fun y e2 => ∃ m n : Int, x = .int m ∧ y = .int n ∧ -(lim : Int) ≤ m ∧ m ≤ lim ∧ -(lim : Int) ≤ n ∧ n ≤ (lim : Int) ∧ QI (rangeD m n) e2 := rfl
@[simp] theorem r_izip {QI : List D → En → Prop} : wiZip2 a b e QI = a e fun x e1 => b e1 fun y e2 => ∃ xs ys, sameK x y = true ∧ seqD x = some xs ∧ seqD y = some ys ∧ QI (zipD xs ys) e2 := rfl
@[simp] theorem r_mut {F : List D → List D → Option (D × List D)} : wMut i F r e Q = ((∃ xs, e[i]? = some (some (.list xs))) ∧ r e fun ys e1 => ∃ xs z xs', e1[i]? = some (some (.list xs)) ∧ F xs ys = some (z, xs') ∧ Q z (e1.set i (some (.list xs')))) := rfl
@[simp] theorem r_setix : wSetIx i a b W e = a e fun y e1 => (∃ xs, e1[i]? = some (some (.list xs))) ∧ b e1 fun j e2 => ∃ k xs m, j = .int k ∧ e2[i]? = some (some (.list xs)) ∧ ixN xs.length k = some m ∧ W.nx (e2.set i (some (.list (xs.set m y)))) := rfl
@[simp] theorem r_plix : wPlIx i e Q = (e[i]? = some (some .none) ∧ ∀ x : Int, Q (.int x) e) := rfl
@[simp] theorem r_plset : wPlSet i a W e = a e fun d e1 => ∃ y : Int, d = .int y ∧ e1[i]? = some (some .none) ∧ W.nx e1 := rfl
@[simp] theorem r_np : wNp a e Q = a e fun d e1 => ∃ x y z : Int, d = .list [.int x, .int y, .int z] ∧ Q .none e1 := rfl
@[simp] theorem r_lstrg : wLstRg it e Q = it e fun xs e1 => Q (.list xs) e1 := rfl
theorem r_comp {vs : List Nat} : wComp it g vs t b e Q = it e fun xs e1 => compL g vs t b (fun acc e2 => Q (.list acc) (back e1 e2 vs)) xs [] (wp e1 vs) := rfl
@[simp] theorem r_never : wNever W e = False := rfl
@[simp] theorem seqD_l {xs : List D} : seqD (.list xs) = some xs := rfl
@[simp] theorem seqD_t {xs : List D} : seqD (.tuple xs) = some xs := rfl
end
@[simp] theorem addD_i (a b : Int) : addD (.int a) (.int b) = some (.int (a + b)) := rfl
@[simp] theorem subD_i (a b : Int) : subD (.int a) (.int b) = some (.int (a - b)) := rfl
@[simp] theorem leD_i (a b : Int) : leD (.int a) (.int b) = some (.bool (decide (a ≤ b))) := rfl
@[simp] theorem gtD_i (a b : Int) : gtD (.int a) (.int b) = some (.bool (decide (b < a))) := rfl
@[simp] theorem geD_i (a b : Int) : geD (.int a) (.int b) = some (.bool (decide (b ≤ a))) := rfl
@[simp] theorem ltD_i (a b : Int) : ltD (.int a) (.int b) = some (.bool (decide (a < b))) := rfl
@[simp] theorem negD_i (a : Int) : negD (.int a) = some (.int (-a)) := rfl
@[simp] theorem modD_i {a b : Int} (h : 0 < b) : modD (.int a) (.int b) = some (.int (a % b)) := by simp [modD, h]
@[simp] theorem fdivD_i {a b : Int} (h : 0 < b) (h' : b < 1073741824) : fdivD (.int a) (.int b) = some (.int (a / b)) := by simp [fdivD, h, h']
theorem mulID_i {a b : Int} (h : okMul a b = true) : mulID (.int a) (.int b) = some (.int (a * b)) := by simp [mulID, h]
theorem okMul_l {a b : Int} (h : -18446744073709551616 < a) (h' : a < 18446744073709551616) : okMul a b = true := by simp [okMul]; omega
theorem okMul_r {a b : Int} (h : -18446744073709551616 < b) (h' : b < 18446744073709551616) : okMul a b = true := by simp [okMul]; omega
@[simp] theorem okD_i (a : Int) : okD (.int a) = true := by simp [okD, SeqAt.shaped, PyData.canLay0, PyData.depth]
@[simp] theorem okD_b (a : Bool) : okD (.bool a) = true := by simp [okD, SeqAt.shaped, PyData.canLay0, PyData.depth]
@[simp] theorem okD_n : okD .none = true := by simp [okD, SeqAt.shaped, PyData.canLay0, PyData.depth]
@[simp] theorem eqv_ii (a b : Int) : PyData.eqv (.int a) (.int b) = decide (a = b) := by simp only [PyData.eqv]; exact Bool.beq_eq_decide_eq a b
@[simp] theorem eqv_bb (a b : Bool) : PyData.eqv (.bool a) (.bool b) = (a == b) := by simp only [PyData.eqv]
@[simp] theorem eqD_i (a b : Int) : eqD (.int a) (.int b) = some (.bool (decide (a = b))) := by simp [eqD]
@[simp] theorem neD_i (a b : Int) : neD (.int a) (.int b) = some (.bool (!decide (a = b))) := by simp [neD]
@[simp] theorem eqD_b (a b : Bool) : eqD (.bool a) (.bool b) = some (.bool (a == b)) := by simp [eqD]
@[simp] theorem neD_b (a b : Bool) : neD (.bool a) (.bool b) = some (.bool (!(a == b))) := by simp [neD]
@[simp] theorem isD_n (x : D) : isD x .none = isNoneD x := by cases x <;> rfl
@[simp] theorem isNotD_n (x : D) : isNotD x .none = notNoneD x := by cases x <;> rfl
@[simp] theorem lenD_l (xs : List D) : lenD [.list xs] = some (.int xs.length) := rfl
@[simp] theorem lenD_t (xs : List D) : lenD [.tuple xs] = some (.int xs.length) := rfl
@[simp] theorem tupD_l (xs : List D) : tupD [.list xs] = some (.tuple xs) := rfl
@[simp] theorem tupD_t (xs : List D) : tupD [.tuple xs] = some (.tuple xs) := rfl
@[simp] theorem lstD_l (xs : List D) : lstD [.list xs] = some (.list xs) := rfl
@[simp] theorem lstD_t (xs : List D) : lstD [.tuple xs] = some (.list xs) := rfl
@[simp] theorem max2D_i (a b : Int) : max2D [.int a, .int b] = some (.int (if b > a then b else a)) := rfl
@[simp] theorem min2D_i (a b : Int) : min2D [.int a, .int b] = some (.int (if b < a then b else a)) := rfl
@[simp] theorem intD_b (b : Bool) : intD [.bool b] = some (.int (if b then 1 else 0)) := rfl
@[simp] theorem intD_i (b : Int) : intD [.int b] = some (.int b) := rfl
@[simp] theorem intsD_map (ns : List Int) : intsD (ns.map PyData.int) = some ns := by
  induction ns with
  | nil => rfl
  | cons n ns ih => simp [intsD, ih]
@[simp] theorem boolsD_map (ns : List Bool) : boolsD (ns.map PyData.bool) = some ns := by
  induction ns with
  | nil => rfl
  | cons n ns ih => simp [boolsD, ih]
@[simp] theorem sortedD_i (ns : List Int) : sortedD [.list (ns.map .int)] = some (.list ((isort ns).map .int)) := by simp [sortedD]
@[simp] theorem sortedAD_i (ns : List Int) : sortedAD [.list (ns.map .int)] = some (.list ((isort ns).map .int)) := by simp [sortedAD]
theorem pairsD_dP : ∀ ps : List (Int × Int), pairsD (ps.map dP) = some ps
  | [] => rfl
  | p :: ps => by simp [pairsD, dP, pairsD_dP ps]
@[simp] theorem sortedAD_p (ps : List (Int × Int)) : sortedAD [.list (ps.map dP)] = some (.list ((psort ps).map dP)) := by
  cases ps with
  | nil => rfl
  | cons p ps =>
    have h : intsD ((p :: ps).map dP) = none := by simp [intsD, dP]
    have h2 := pairsD_dP (p :: ps)
    simp only [sortedAD, h, h2, Option.map_some]
@[simp] theorem allD_b (ns : List Bool) : allD [.list (ns.map .bool)] = some (.bool (ns.all id)) := by simp [allD]
@[simp] theorem anyD_b (ns : List Bool) : anyD [.list (ns.map .bool)] = some (.bool (ns.any id)) := by simp [anyD]
theorem ixD_l {xs : List D} {i : Nat} {x : D} (h : xs[i]? = some x) : ixD (.list xs) (.int (i : Int)) = some x := by
  have hi := (List.getElem?_eq_some_iff.mp h).1
  have : ixN xs.length (i : Int) = some i := by simp [ixN, hi]
  simp [ixD, this, h]
theorem ixD_t {xs : List D} {i : Nat} {x : D} (h : xs[i]? = some x) : ixD (.tuple xs) (.int (i : Int)) = some x := by
  have hi := (List.getElem?_eq_some_iff.mp h).1
  have : ixN xs.length (i : Int) = some i := by simp [ixN, hi]
  simp [ixD, this, h]
@[simp] theorem ixD_t0 (x : D) (xs : List D) : ixD (.tuple (x :: xs)) (.int 0) = some x := ixD_t (i := 0) rfl
@[simp] theorem ixD_t1 (x y : D) (xs : List D) : ixD (.tuple (x :: y :: xs)) (.int 1) = some y := ixD_t (i := 1) rfl
@[simp] theorem ixD_t2 (x y z : D) (xs : List D) : ixD (.tuple (x :: y :: z :: xs)) (.int 2) = some z := ixD_t (i := 2) rfl
@[simp] theorem ixD_l0 (x : D) (xs : List D) : ixD (.list (x :: xs)) (.int 0) = some x := ixD_l (i := 0) rfl
@[simp] theorem ixD_l1 (x y : D) (xs : List D) : ixD (.list (x :: y :: xs)) (.int 1) = some y := ixD_l (i := 1) rfl
@[simp] theorem wp_nil (e : En) : wp e [] = e := rfl
@[simp] theorem wp_cons (e : En) (v : Nat) (vs : List Nat) : wp e (v :: vs) = (wp e vs).set v none := rfl
@[simp] theorem back_nil (e e2 : En) : back e e2 [] = e2 := rfl
@[simp] theorem back_cons (e e2 : En) (v : Nat) (vs : List Nat) : back e e2 (v :: vs) = (back e e2 vs).set v ((e[v]?).getD none) := rfl
@[simp] theorem lim_val : lim = 1000000 := rfl
/-- a truth given: what is asked of it -/
@[simp] theorem ex_bl {x : Bool} {R : Bool → Prop} : (∃ b, PyData.bool x = PyData.bool b ∧ R b) = R x := by
  apply propext
  constructor
  · rintro ⟨b, e, r⟩; cases e; exact r
  · intro r; exact ⟨x, rfl, r⟩
theorem appendF_ok {xs : List D} {y : D} (h : xs.length < 1000000) : appendF xs [y] = some (.none, xs ++ [y]) := by simp [appendF, h]
theorem extendF_ok {xs ys : List D} (h : xs.length + ys.length ≤ 1000000) : extendF xs [.list ys] = some (.none, xs ++ ys) := by simp [extendF, h]
theorem popAtF_ok {xs : List D} {y : D} {i : Nat} (h : xs[i]? = some y) : popAtF xs [.int (i : Int)] = some (y, xs.eraseIdx i) := by
  obtain ⟨hi, he⟩ := List.getElem?_eq_some_iff.mp h
  simp [popAtF, ixN, hi, he]
theorem addLD_ok {xs ys : List D} (h : xs.length + ys.length ≤ 1000000) : addLD (.list xs) (.list ys) = some (.list (xs ++ ys)) := by simp [addLD, h]
theorem addD_l {xs ys : List D} (h : xs.length + ys.length ≤ 1000000) : addD (.list xs) (.list ys) = some (.list (xs ++ ys)) := by simp [addD, h]
theorem addD_t {xs ys : List D} (h : xs.length + ys.length ≤ 1000000) : addD (.tuple xs) (.tuple ys) = some (.tuple (xs ++ ys)) := by simp [addD, h]
/-- data of whole numbers and truths at most k deep -/
def lay (k : Nat) (d : D) : Prop := d.canLay0 = true ∧ d.depth ≤ k
theorem lay_ok {k : Nat} {d : D} (h : lay k d) (hk : k ≤ 64 := by decide) : okD d = true := by
  simp only [okD, SeqAt.shaped, Bool.and_eq_true, decide_eq_true_eq]
  exact ⟨h.1, Nat.le_trans h.2 hk⟩
theorem lay_int (i : Int) {k : Nat} : lay k (.int i) := by simp [lay, PyData.canLay0, PyData.depth]
theorem lay_bool (i : Bool) {k : Nat} : lay k (.bool i) := by simp [lay, PyData.canLay0, PyData.depth]
theorem lay_all {k : Nat} : ∀ {ds : List D}, (∀ d ∈ ds, lay k d) → PyData.canLayAll0 ds = true ∧ PyData.depthAll ds ≤ k
  | [], _ => by simp [PyData.canLayAll0, PyData.depthAll]
  | d :: ds, h => by
    obtain ⟨h1, h2⟩ := lay_all (ds := ds) fun x hx => h x (List.mem_cons_of_mem _ hx)
    obtain ⟨h3, h4⟩ := h d (List.mem_cons_self)
    simp only [PyData.canLayAll0, PyData.depthAll, h1, h3, Bool.and_self, true_and]
    omega
theorem lay_tup {k : Nat} {ds : List D} (h : ∀ d ∈ ds, lay k d) : lay (k + 1) (.tuple ds) := by
  obtain ⟨h1, h2⟩ := lay_all h
  exact ⟨by simpa [PyData.canLay0] using h1, by simp [PyData.depth]; omega⟩
theorem lay_lst {k : Nat} {ds : List D} (h : ∀ d ∈ ds, lay k d) : lay (k + 1) (.list ds) := by
  obtain ⟨h1, h2⟩ := lay_all h
  exact ⟨by simpa [PyData.canLay0] using h1, by simp [PyData.depth]; omega⟩
theorem lay_ints (ns : List Int) {k : Nat} : ∀ d ∈ ns.map PyData.int, lay k d := fun d hd => by
  obtain ⟨n, _, rfl⟩ := List.mem_map.mp hd
  exact lay_int n
theorem eqv_refl {k : Nat} {d : D} (h : lay k d) : PyData.eqv d d = true := SeqAt.eqv_refl d h.1
theorem eqvAll_map {α : Type} [DecidableEq α] (f : α → D) (h : ∀ a b, PyData.eqv (f a) (f b) = decide (a = b)) : ∀ xs ys : List α, PyData.eqvAll (xs.map f) (ys.map f) = decide (xs = ys)
  | [], [] => by simp [PyData.eqvAll]
  | [], _ :: _ => by simp [PyData.eqvAll]
  | _ :: _, [] => by simp [PyData.eqvAll]
  | x :: xs, y :: ys => by
    simp only [List.map_cons, PyData.eqvAll, h, eqvAll_map f h xs ys, List.cons.injEq]
    by_cases h1 : x = y <;> by_cases h2 : xs = ys <;> simp [h1, h2]
theorem eqv_tup {α : Type} [DecidableEq α] {f : α → D} (h : ∀ a b, PyData.eqv (f a) (f b) = decide (a = b)) (xs ys : List α) : PyData.eqv (.tuple (xs.map f)) (.tuple (ys.map f)) = decide (xs = ys) := by
  simp only [PyData.eqv]; exact eqvAll_map f h xs ys
theorem eqv_lst {α : Type} [DecidableEq α] {f : α → D} (h : ∀ a b, PyData.eqv (f a) (f b) = decide (a = b)) (xs ys : List α) : PyData.eqv (.list (xs.map f)) (.list (ys.map f)) = decide (xs = ys) := by
  simp only [PyData.eqv]; exact eqvAll_map f h xs ys
theorem eqv_dP (p q : Int × Int) : PyData.eqv (dP p) (dP q) = decide (p = q) := by
  obtain ⟨a, b⟩ := p; obtain ⟨c, d⟩ := q
  simp only [dP, PyData.eqv, PyData.eqvAll, eqv_ii, Prod.mk.injEq, Bool.and_true]
  by_cases h1 : a = c <;> by_cases h2 : b = d <;> simp [h1, h2]
theorem lay_dP (p : Int × Int) : lay 1 (dP p) := lay_tup fun d hd => by
  simp at hd; rcases hd with rfl | rfl <;> exact lay_int _
theorem any_map' {α : Type} [DecidableEq α] {f : α → D} (h : ∀ a b, PyData.eqv (f a) (f b) = decide (a = b)) (xs : List α) (x : α) : ((xs.map f).any fun z => PyData.eqv z (f x)) = decide (x ∈ xs) := by
  induction xs with
  | nil => simp
  | cons y ys ih =>
    simp only [List.map_cons, List.any_cons, h, ih, List.mem_cons]
    by_cases h1 : y = x
    · simp [h1]
    · have : ¬ x = y := fun z => h1 z.symm
      simp [h1, this]
theorem any_map {α : Type} [DecidableEq α] {f : α → D} (h : ∀ a b, PyData.eqv (f a) (f b) = decide (a = b)) (xs : List α) (x : α) [Decidable (x ∈ xs)] : ((xs.map f).any fun z => PyData.eqv z (f x)) = decide (x ∈ xs) := by
  rw [any_map' h]; exact decide_eq_decide.mpr Iff.rfl
theorem inD_pair (p a b : Int) : inD (.int p) (.tuple [.int a, .int b]) = some (.bool (decide (p = a) || decide (p = b))) := by
  have h : okD (.tuple [.int a, .int b]) = true := lay_ok (k := 1) (lay_tup fun d hd => by simp at hd; rcases hd with rfl | rfl <;> exact lay_int _)
  simp only [inD, seqD_t, okD_i, h, and_self, if_true, List.any_cons, List.any_nil, eqv_ii, Bool.or_false]
  congr 3 <;> exact decide_eq_decide.mpr eq_comm
theorem lay_map {α : Type} {k : Nat} {f : α → D} (h : ∀ a, lay k (f a)) (xs : List α) : ∀ d ∈ xs.map f, lay k d := fun d hd => by
  obtain ⟨a, _, rfl⟩ := List.mem_map.mp hd
  exact h a
theorem inD_l {α : Type} [DecidableEq α] {k : Nat} {f : α → D} (h : ∀ a b, PyData.eqv (f a) (f b) = decide (a = b)) (hl : ∀ a, lay k (f a)) (x : α) (xs : List α) (hk : k + 1 ≤ 64 := by decide) [Decidable (x ∈ xs)] : inD (f x) (.list (xs.map f)) = some (.bool (decide (x ∈ xs))) := by
  simp only [inD, seqD_l, lay_ok (hl x) (by omega), lay_ok (lay_lst (lay_map hl xs)) hk, and_self, if_true, any_map h]
theorem inD_t {α : Type} [DecidableEq α] {k : Nat} {f : α → D} (h : ∀ a b, PyData.eqv (f a) (f b) = decide (a = b)) (hl : ∀ a, lay k (f a)) (x : α) (xs : List α) (hk : k + 1 ≤ 64 := by decide) [Decidable (x ∈ xs)] : inD (f x) (.tuple (xs.map f)) = some (.bool (decide (x ∈ xs))) := by
  simp only [inD, seqD_t, lay_ok (hl x) (by omega), lay_ok (lay_tup (lay_map hl xs)) hk, and_self, if_true, any_map h]
theorem notInD_l {α : Type} [DecidableEq α] {k : Nat} {f : α → D} (h : ∀ a b, PyData.eqv (f a) (f b) = decide (a = b)) (hl : ∀ a, lay k (f a)) (x : α) (xs : List α) (hk : k + 1 ≤ 64 := by decide) [Decidable (x ∈ xs)] : notInD (f x) (.list (xs.map f)) = some (.bool (!decide (x ∈ xs))) := by
  simp only [notInD, seqD_l, lay_ok (hl x) (by omega), lay_ok (lay_lst (lay_map hl xs)) hk, and_self, if_true, any_map h]
theorem notInD_t {α : Type} [DecidableEq α] {k : Nat} {f : α → D} (h : ∀ a b, PyData.eqv (f a) (f b) = decide (a = b)) (hl : ∀ a, lay k (f a)) (x : α) (xs : List α) (hk : k + 1 ≤ 64 := by decide) [Decidable (x ∈ xs)] : notInD (f x) (.tuple (xs.map f)) = some (.bool (!decide (x ∈ xs))) := by
  simp only [notInD, seqD_t, lay_ok (hl x) (by omega), lay_ok (lay_tup (lay_map hl xs)) hk, and_self, if_true, any_map h]
theorem eqD_lay {k : Nat} {x y : D} (hx : lay k x) (hy : lay k y) (hk : k ≤ 64 := by decide) : eqD x y = some (.bool (PyData.eqv x y)) := by
  simp [eqD, lay_ok hx hk, lay_ok hy hk]
theorem neD_lay {k : Nat} {x y : D} (hx : lay k x) (hy : lay k y) (hk : k ≤ 64 := by decide) : neD x y = some (.bool (!PyData.eqv x y)) := by
  simp [neD, lay_ok hx hk, lay_ok hy hk]
/-- one statement, then the rest: what is known between them -/
theorem seq_cut {p q : WS} {W : WD} {e : En} (P : En → Prop) (h : ∀ R : En → Prop, (∀ e1, P e1 → R e1) → p { W with nx := R } e) (k : ∀ e1, P e1 → q W e1) : wSeq p q W e := h _ k
theorem forL_inv {g : WG} {b : WS} {W : WD} {xs : List D} (Inv : Nat → En → Prop) {e : En} (h0 : Inv 0 e)
    (hs : ∀ i e x R, xs[i]? = some x → Inv i e → (∀ e', Inv (i + 1) e' → R e') → ∃ e1, g x e = some e1 ∧ b { W with nx := R, ct := R, bk := W.nx } e1) (hend : ∀ e, Inv xs.length e → W.nx e) : forL g b W xs e := by
  have key : ∀ (ys : List D) (i : Nat) (e : En), xs.drop i = ys → i ≤ xs.length → Inv i e → forL g b W ys e := by
    intro ys
    induction ys with
    | nil =>
      intro i e hd hi h
      have : i = xs.length := by
        have := congrArg List.length hd
        simp at this; omega
      subst this
      exact hend e h
    | cons y ys ih =>
      intro i e hd hi h
      have hlt : i < xs.length := by
        have := congrArg List.length hd
        simp at this; omega
      have hx : xs[i]? = some y := by
        have : (xs.drop i)[0]? = some y := by rw [hd]; rfl
        rwa [List.getElem?_drop, Nat.add_zero] at this
      have hd' : xs.drop (i + 1) = ys := by
        rw [← List.drop_drop, hd]; rfl
      exact hs i e y _ hx h fun e' h' => ih (i + 1) e' hd' hlt h'
  exact key xs 0 e rfl (Nat.zero_le _) h0
theorem compL_map {α : Type} {g : WG} {vs : List Nat} {t : WT} {b : WE} {Q : List D → En → Prop} {e : En} {h : α → D} {xs : List α} {acc : List D} (p : α → Bool) (f : α → D)
    (hs : ∀ x ∈ xs, ∃ e1, g (h x) e = some e1 ∧ (∀ R, R (p x) e1 → t e1 R) ∧ (p x = true → ∀ R, R (f x) e1 → b e1 R) ∧ wp e1 vs = e) (hq : Q (acc ++ (xs.filter p).map f) e) : compL g vs t b Q (xs.map h) acc e := by
  induction xs generalizing acc with
  | nil => simp at hq; exact hq
  | cons x xs ih =>
    obtain ⟨e1, h1, h2, h3, h4⟩ := hs x (by simp)
    refine ⟨e1, h1, h2 _ ?_⟩
    cases hp : p x with
    | true =>
      rw [if_pos rfl]
      refine h3 hp _ ?_
      rw [h4]
      exact ih (fun y hy => hs y (by simp [hy])) (by simpa [hp] using hq)
    | false =>
      rw [if_neg (by simp), h4]
      exact ih (fun y hy => hs y (by simp [hy])) (by simpa [hp] using hq)
/-- a comprehension by an invariant of what has been made -/
theorem compL_inv {g : WG} {vs : List Nat} {t : WT} {b : WE} {Q : List D → En → Prop} {xs : List D} (Inv : Nat → List D → En → Prop) {e : En} (h0 : Inv 0 [] e)
    (hs : ∀ i x acc e, xs[i]? = some x → Inv i acc e → ∃ e1, g x e = some e1 ∧ ∀ (R : List D → En → Prop), (∀ acc' e', Inv (i + 1) acc' e' → R acc' e') → t e1 fun c e2 => if c = true then b e2 fun y e3 => R (acc ++ [y]) (wp e3 vs) else R acc (wp e2 vs)) (hq : ∀ acc e, Inv xs.length acc e → Q acc e) : compL g vs t b Q xs [] e := by
  have key : ∀ (ys : List D) (i : Nat) (acc : List D) (e : En), xs.drop i = ys → i ≤ xs.length → Inv i acc e → compL g vs t b Q ys acc e := by
    intro ys
    induction ys with
    | nil =>
      intro i acc e hd hi h
      have : i = xs.length := by
        have := congrArg List.length hd
        simp at this; omega
      subst this
      exact hq acc e h
    | cons y ys ih =>
      intro i acc e hd hi h
      have hlt : i < xs.length := by
        have := congrArg List.length hd
        simp at this; omega
      have hx : xs[i]? = some y := by
        have : (xs.drop i)[0]? = some y := by rw [hd]; rfl
        rwa [List.getElem?_drop, Nat.add_zero] at this
      have hd' : xs.drop (i + 1) = ys := by
        rw [← List.drop_drop, hd]; rfl
      obtain ⟨e1, h1, h2⟩ := hs i y acc e hx h
      exact ⟨e1, h1, h2 _ fun acc' e' h' => ih (i + 1) acc' e' hd' hlt h'⟩
  exact key xs 0 [] e rfl (Nat.zero_le _) h0
def irng (lo hi : Int) : List Int := (List.range (hi - lo).toNat).map fun (i : Nat) => lo + (i : Int)
theorem rangeD_ints (lo hi : Int) : rangeD lo hi = (irng lo hi).map .int := by
  unfold rangeD irng; rw [List.map_map]; rfl
theorem mem_ints {lo hi i : Int} : i ∈ irng lo hi ↔ lo ≤ i ∧ i < hi := by
  unfold irng
  constructor
  · intro h
    obtain ⟨k, hk, rfl⟩ := List.mem_map.mp h
    have := List.mem_range.mp hk
    omega
  · intro h
    exact List.mem_map.mpr ⟨(i - lo).toNat, List.mem_range.mpr (by omega), by omega⟩
theorem ints_len (lo hi : Int) : (irng lo hi).length = (hi - lo).toNat := by simp [irng]
theorem ints_get {lo hi : Int} {k : Nat} (h : k < (hi - lo).toNat) : (irng lo hi)[k]? = some (lo + (k : Int)) := by
  unfold irng
  rw [List.getElem?_map, List.getElem?_range h]; rfl
theorem ints_sorted (lo hi : Int) : (irng lo hi).Pairwise (· < ·) := by
  unfold irng
  rw [List.pairwise_map]
  exact (List.pairwise_lt_range).imp fun h => by omega
end G7

set_option maxRecDepth 100000
namespace G7
open PySem PySem.Spec PyProof.Rows L2
end G7

set_option maxRecDepth 100000
namespace G7
open PySem PySem.Spec PyProof.Rows L2
def wDisp1 (a b : WE) : WE := fun e Q => a e fun x e1 => b e1 fun y e2 => (∃ k, keyOf x = some k) ∧ Q (.dict [(x, y)]) e2
def wLstZip (a b : WE) : WE := fun e Q => a e fun x e1 => b e1 fun y e2 => ∃ xs ys, seqD x = some xs ∧ seqD y = some ys ∧ Q (.list (zipD xs ys)) e2
end G7

set_option maxRecDepth 100000
namespace G7
open PySem PySem.Spec PyProof.Rows L2
end G7

set_option maxRecDepth 100000
namespace G7
open PySem PySem.Spec PyProof.Rows L2
/-- the items of t[lo:hi:-1] -/
def pickR {α : Type} (xs : List α) (lo hi : Option Int) : List α :=
  (List.range (Builtin.Slice.slicePlaces (Builtin.Slice.sliceAdjust lo hi (-1) xs.length).1 (Builtin.Slice.sliceAdjust lo hi (-1) xs.length).2 (-1))).filterMap fun (k : Nat) => xs[((Builtin.Slice.sliceAdjust lo hi (-1) xs.length).1 + (k : Int) * (-1)).toNat]?
section
variable {X : Cx}
variable {κ : List SK} {M : List Nat} {k : RK} {w : WE} {e : Expr}
def revTD : D → Option Int → Option Int → Option D
  | .tuple xs, lo, hi => some (.tuple (pickR xs lo hi))
  | .dict [(.none, .tuple xs)], lo, hi => some (.tuple (pickR xs lo hi))
  | _, _, _ => none
end
theorem pickR_all {α : Type} (xs : List α) : pickR xs none none = xs.reverse := by
  unfold pickR
  have e1 : Builtin.Slice.sliceAdjust none none (-1) xs.length = ((xs.length : Int) - 1, -1) := by simp [Builtin.Slice.sliceAdjust]
  rw [e1]
  have e2 : Builtin.Slice.slicePlaces ((xs.length : Int) - 1) (-1) (-1) = xs.length := by
    unfold Builtin.Slice.slicePlaces
    simp
    split <;> omega
  simp only [e2]
  refine List.ext_getElem? fun i => ?_
  have : ∀ n : Nat, n ≤ xs.length → ((List.range n).filterMap fun (k : Nat) => xs[((xs.length : Int) - 1 + (k : Int) * (-1)).toNat]?) = (xs.reverse.take n) := by
    intro n
    induction n with
    | zero => intro _; rfl
    | succ n ih =>
      intro h
      rw [List.range_succ, List.filterMap_append, ih (by omega)]
      have hi : n < xs.reverse.length := by rw [List.length_reverse]; omega
      rw [List.take_succ_eq_append_getElem hi]
      congr 1
      have : ((xs.length : Int) - 1 + (n : Int) * (-1)).toNat = xs.length - 1 - n := by omega
      simp only [List.filterMap_cons, List.filterMap_nil, this]
      rw [List.getElem?_eq_getElem (by omega), List.getElem_reverse]
  rw [this xs.length (Nat.le_refl _), List.take_of_length_le (by rw [List.length_reverse]; exact Nat.le_refl _)]
theorem revT_m {α : Type} {f : α → D} {l : List α} : revTD (.tuple (l.map f)) none none = some (.tuple (l.reverse.map f)) := by
  simp only [revTD, pickR_all, List.map_reverse]
end G7

namespace G7
open PySem

section
variable {e : En} {i j : Nat} {d x y : D} {Q : D → En → Prop} {QT : Bool → En → Prop} {QA : List D → En → Prop} {QO : Option Int → En → Prop} {QI : List D → En → Prop}
  {nx bk ct : En → Prop} {rt : D → En → Prop} {a b c : WE} {r : WA} {s t : WT} {f h : D → D → Option D} {f1 : D → Option D} {fl : List D → Option D} {S : FS} {g : WG} {lo hi : WO} {p q : WS} {it : WI}
theorem i_seq (k : p ⟨fun e1 => q ⟨nx, rt, bk, ct⟩ e1, rt, bk, ct⟩ e) : wSeq p q ⟨nx, rt, bk, ct⟩ e := k
theorem i_asg (k : a e fun x e1 => nx (e1.set i (some x))) : wAsg i a ⟨nx, rt, bk, ct⟩ e := k
theorem i_asgG (k : a e fun x e1 => ∃ e2, g x e1 = some e2 ∧ nx e2) : wAsgG g a ⟨nx, rt, bk, ct⟩ e := k
theorem i_asgP (k : a e fun d e1 => ∃ x y z : Int, d = .list [.int x, .int y, .int z] ∧ nx (e1.set i (some .none))) : wAsgP i a ⟨nx, rt, bk, ct⟩ e := k
theorem i_expr (k : a e fun _ e1 => nx e1) : wExpr a ⟨nx, rt, bk, ct⟩ e := k
theorem i_ret (k : a e rt) : wRet a ⟨nx, rt, bk, ct⟩ e := k
theorem i_retN (k : rt .none e) : wRetN ⟨nx, rt, bk, ct⟩ e := k
theorem i_if (k : t e fun c e1 => if c = true then p ⟨nx, rt, bk, ct⟩ e1 else q ⟨nx, rt, bk, ct⟩ e1) : wIf t p q ⟨nx, rt, bk, ct⟩ e := k
theorem i_nil (k : nx e) : wNil ⟨nx, rt, bk, ct⟩ e := k
theorem i_brk (k : bk e) : wBreak ⟨nx, rt, bk, ct⟩ e := k
theorem i_cnt (k : ct e) : wCont ⟨nx, rt, bk, ct⟩ e := k
theorem i_for (k : it e fun xs e1 => forL g p ⟨nx, rt, bk, ct⟩ xs e1) : wFor it g p ⟨nx, rt, bk, ct⟩ e := k
theorem i_var (h : e[i]? = some (some d)) (k : Q d e) : wVar i e Q := ⟨d, h, k⟩
theorem i_c (k : Q d e) : wC d e Q := k
theorem i_op1 (k : a e fun x e1 => ∃ z, f1 x = some z ∧ Q z e1) : wOp1 f1 a e Q := k
theorem i_op2 (k : a e fun x e1 => b e1 fun y e2 => ∃ z, f x y = some z ∧ Q z e2) : wOp2 f a b e Q := k
theorem i_anil (k : QA [] e) : waNil e QA := k
theorem i_acons (k : a e fun x e1 => r e1 fun xs e2 => QA (x :: xs) e2) : waCons a r e QA := k
theorem i_list (k : r e fun xs e1 => xs.length ≤ 1000000 ∧ Q (.list xs) e1) : wList r e Q := k
theorem i_tup (k : r e fun xs e1 => xs.length ≤ 1000000 ∧ Q (.tuple xs) e1) : wTup r e Q := k
theorem i_call (k : r e fun xs e1 => S xs fun r => Q r e1) : wCall S r e Q := k
theorem i_blt (k : r e fun xs e1 => ∃ z, fl xs = some z ∧ Q z e1) : wBlt fl r e Q := k
theorem i_on (k : QO none e) : woN e QO := k
theorem i_os (k : a e fun x e1 => ∃ i, x = .int i ∧ QO (some i) e1) : woS a e QO := k
theorem i_sl {h : D → Option Int → Option Int → Option D} (k : a e fun x e1 => lo e1 fun l e2 => hi e2 fun u e3 => ∃ z, h x l u = some z ∧ Q z e3) : wSl h a lo hi e Q := k
theorem i_val (k : a e fun x e1 => ∃ b, x = .bool b ∧ QT b e1) : tVal a e QT := k
theorem i_tand (k : s e fun b e1 => if b = true then t e1 QT else QT false e1) : tAnd s t e QT := k
theorem i_tor (k : s e fun b e1 => if b = true then QT true e1 else t e1 QT) : tOr s t e QT := k
theorem i_tnot (k : s e fun b e1 => QT (!b) e1) : tNot s e QT := k
theorem i_yes (k : QT true e) : G7.tYes e QT := k
theorem i_and (k : a e fun x e1 => ∃ c, x = .bool c ∧ if c = true then b e1 Q else Q (.bool false) e1) : wAnd a b e Q := k
theorem i_or (k : a e fun x e1 => ∃ c, x = .bool c ∧ if c = true then Q (.bool true) e1 else b e1 Q) : wOr a b e Q := k
theorem i_not (k : a e fun x e1 => ∃ c, x = .bool c ∧ Q (.bool (!c)) e1) : wNot a e Q := k
theorem i_ife (k : t e fun c e1 => if c = true then a e1 Q else b e1 Q) : wIfE t a b e Q := k
theorem i_chain (k : a e fun x e1 => b e1 fun y e2 => ∃ k, f x y = some (.bool k) ∧ if k = true then c e2 fun z e3 => ∃ r, h y z = some r ∧ Q r e3 else Q (.bool false) e2) : wChain f h a b c e Q := k
theorem i_iseq (k : a e fun x e1 => ∃ xs, seqD x = some xs ∧ QI xs e1) : wiSeq a e QI := k
theorem i_irg1 (k : a e fun x e1 => ∃ n : Int, x = .int n ∧ (-1000000 ≤ n ∧ n ≤ 1000000) ∧ QI ((irng 0 n).map .int) e1) : wiRg1 a e QI := by
  show a e _
  refine cast ?_ k
  congr 1
  funext x e1
  apply propext
  constructor
  · rintro ⟨n, h, h1, h2⟩; exact ⟨n, h, h1.1, h1.2, by rw [rangeD_ints]; exact h2⟩
  · rintro ⟨n, h, h1, h2, h3⟩; exact ⟨n, h, ⟨h1, h2⟩, by rw [rangeD_ints] at h3; exact h3⟩
theorem i_irg2 (k : a e fun x e1 => b e1 fun y e2 => ∃ m n : Int, x = .int m ∧ y = .int n ∧ (-1000000 ≤ m ∧ m ≤ 1000000 ∧ -1000000 ≤ n ∧ n ≤ 1000000) ∧ QI ((irng m n).map .int) e2) : wiRg2 a b e QI := by
  show a e _
  refine cast ?_ k
  congr 1
  funext x e1
  congr 1
  funext y e2
  apply propext
  constructor
  · rintro ⟨m, n, h, h', h1, h2⟩; exact ⟨m, n, h, h', h1.1, h1.2.1, h1.2.2.1, h1.2.2.2, by rw [rangeD_ints]; exact h2⟩
  · rintro ⟨m, n, h, h', h1, h2, h3, h4, h5⟩; exact ⟨m, n, h, h', ⟨h1, h2, h3, h4⟩, by rw [rangeD_ints] at h5; exact h5⟩
def zipK (QI : List D → En → Prop) (x y : D) (e : En) : Prop := ∃ xs ys, sameK x y = true ∧ seqD x = some xs ∧ seqD y = some ys ∧ QI (zipD xs ys) e
def enumK (QI : List D → En → Prop) (x : D) (e : En) : Prop := ∃ xs, seqD x = some xs ∧ QI (enumD xs) e
def lstZK (Q : D → En → Prop) (x y : D) (e : En) : Prop := ∃ xs ys, seqD x = some xs ∧ seqD y = some ys ∧ Q (.list (zipD xs ys)) e
theorem i_izip (k : a e fun x e1 => b e1 fun y e2 => zipK QI x y e2) : wiZip2 a b e QI := k
theorem i_ienum (k : a e fun x e1 => enumK QI x e1) : wiEnum a e QI := k
theorem i_irev (k : a e fun x e1 => ∃ xs, seqD x = some xs ∧ QI xs.reverse e1) : wiRev a e QI := k
def mutK (i : Nat) (F : List D → List D → Option (D × List D)) (Q : D → En → Prop) (ys : List D) (e : En) : Prop := ∃ xs z xs', e[i]? = some (some (.list xs)) ∧ F xs ys = some (z, xs') ∧ Q z (e.set i (some (.list xs')))
theorem i_mut {F : List D → List D → Option (D × List D)} {l : List D} (h : e[i]? = some (some (.list l))) (k : r e fun ys e1 => mutK i F Q ys e1) : wMut i F r e Q := ⟨⟨_, h⟩, k⟩
theorem i_mut1 {F : List D → List D → Option (D × List D)} {l l' ys : List D} {z : D} (h : e[i]? = some (some (.list l))) (hf : F l ys = some (z, l')) (k : Q z (e.set i (some (.list l')))) : mutK i F Q ys e := ⟨_, _, _, h, hf, k⟩
theorem i_plix (h : e[i]? = some (some .none)) (k : ∀ x : Int, Q (.int x) e) : wPlIx i e Q := ⟨h, k⟩
theorem i_plset (k : a e fun d e1 => ∃ y : Int, d = .int y ∧ e1[i]? = some (some .none) ∧ nx e1) : wPlSet i a ⟨nx, rt, bk, ct⟩ e := k
theorem i_np (k : a e fun d e1 => ∃ x y z : Int, d = .list [.int x, .int y, .int z] ∧ Q .none e1) : wNp a e Q := k
theorem i_lstrg (k : it e fun xs e1 => Q (.list xs) e1) : wLstRg it e Q := k
theorem i_comp {vs : List Nat} (k : it e fun xs e1 => compL g vs t b (fun acc e2 => Q (.list acc) (back e1 e2 vs)) xs [] (wp e1 vs)) : wComp it g vs t b e Q := k
def setK (i : Nat) (nx : En → Prop) (y j : D) (e : En) : Prop := ∃ k xs m, j = .int k ∧ e[i]? = some (some (.list xs)) ∧ ixN xs.length k = some m ∧ nx (e.set i (some (.list (xs.set m y))))
def setK0 (i : Nat) (b : WE) (nx : En → Prop) (y : D) (e : En) : Prop := (∃ xs, e[i]? = some (some (.list xs))) ∧ b e fun j e2 => setK i nx y j e2
theorem i_setix (k : a e fun y e1 => setK0 i b nx y e1) : wSetIx i a b ⟨nx, rt, bk, ct⟩ e := k
theorem i_setix0 {l : List D} {y : D} (h : e[i]? = some (some (.list l))) (k : b e fun j e2 => setK i nx y j e2) : setK0 i b nx y e := ⟨⟨_, h⟩, k⟩
theorem i_setixm {α : Type} {f : α → D} {L : List α} {v : α} {k : Int} (h : e[i]? = some (some (.list (L.map f)))) (h0 : 0 ≤ k) (h1 : k < (L.length : Int)) (q : nx (e.set i (some (.list ((L.set k.toNat v).map f))))) : setK i nx (f v) (.int k) e := by
  refine ⟨k, _, k.toNat, rfl, h, ?_, by rw [List.map_set] at q; exact q⟩
  simp [ixN, h0, h1]
theorem i_asO {d : D} (h : e[i]? = some (some d)) (nt : NT d) (k : p ⟨nx, rt, bk, ct⟩ e) : wAsO i p ⟨nx, rt, bk, ct⟩ e := ⟨fun d' h' => by rw [h] at h'; cases h'; exact nt, k⟩
theorem i_asV {d : D} (h : e[i]? = some (some (.tuple [d]))) (k : p ⟨fun e => nx (toF i e), fun d e => rt d (toF i e), fun e => bk (toF i e), fun e => ct (toF i e)⟩ (e.set i (some d))) : wAsV i p ⟨nx, rt, bk, ct⟩ e := ⟨d, h, k⟩
theorem i_frz {d : D} (h : e[i]? = some (some d)) (nt : NT d) (k : p ⟨nx, rt, bk, ct⟩ (e.set i (some (.tuple [d])))) : wFrz i p ⟨nx, rt, bk, ct⟩ e := ⟨d, h, nt, k⟩
theorem i_par2 {a b : D} {R : D → D → Prop} (k : R a b) : ∃ x y, [a, b] = [x, y] ∧ R x y := ⟨a, b, rfl, k⟩
theorem i_disp1 (k : a e fun x e1 => b e1 fun y e2 => (∃ k, keyOf x = some k) ∧ Q (.dict [(x, y)]) e2) : wDisp1 a b e Q := k
theorem i_keyI {i : Int} {R : Prop} (k : R) : (∃ k, keyOf (.int i) = some k) ∧ R := ⟨⟨_, rfl⟩, k⟩
theorem i_lstZ (k : a e fun x e1 => b e1 fun y e2 => lstZK Q x y e2) : wLstZip a b e Q := k
theorem i_T {A B : Prop} (k : A) : if true = true then A else B := k
theorem i_F {A B : Prop} (k : B) : if false = true then A else B := k
theorem i_dT {P A B : Prop} {_ : Decidable P} (h : P) (k : A) : if decide P = true then A else B := by rw [if_pos (by simpa using h)]; exact k
theorem i_dF {P A B : Prop} {_ : Decidable P} (h : ¬ P) (k : B) : if decide P = true then A else B := by rw [if_neg (by simpa using h)]; exact k
theorem i_ndT {P A B : Prop} {_ : Decidable P} (h : ¬ P) (k : A) : if (!decide P) = true then A else B := by rw [if_pos (by simpa using h)]; exact k
theorem i_ndF {P A B : Prop} {_ : Decidable P} (h : P) (k : B) : if (!decide P) = true then A else B := by rw [if_neg (by simpa using h)]; exact k
theorem i_bT {A B : Prop} {c : Bool} (h : c = true) (k : A) : if c = true then A else B := by rw [if_pos h]; exact k
theorem i_bF {A B : Prop} {c : Bool} (h : c = false) (k : B) : if c = true then A else B := by rw [if_neg (by simp [h])]; exact k
theorem i_ex {o : Option D} {z : D} {R : D → Prop} (h : o = some z) (k : R z) : ∃ z, o = some z ∧ R z := ⟨z, h, k⟩
theorem i_exb {z : Bool} {R : Bool → Prop} (k : R z) : ∃ b, PyData.bool z = .bool b ∧ R b := ⟨z, rfl, k⟩
theorem i_exi {z : Int} {R : Int → Prop} (k : R z) : ∃ b, PyData.int z = .int b ∧ R b := ⟨z, rfl, k⟩
theorem i_exk {o : Option D} {z : Bool} {R : Bool → Prop} (h : o = some (.bool z)) (k : R z) : ∃ b, o = some (.bool b) ∧ R b := ⟨z, h, k⟩
theorem i_exl {x : D} {z : List D} {R : List D → Prop} (h : seqD x = some z) (k : R z) : ∃ xs, seqD x = some xs ∧ R xs := ⟨z, h, k⟩
theorem i_rg1 {m : Int} {B : Int → Prop} {R : Int → Prop} (h : B m) (k : R m) : ∃ n : Int, PyData.int m = .int n ∧ B n ∧ R n := ⟨m, rfl, h, k⟩
theorem i_rg2 {m n : Int} {B : Int → Int → Prop} {R : Int → Int → Prop} (h : B m n) (k : R m n) : ∃ m' n' : Int, PyData.int m = .int m' ∧ PyData.int n = .int n' ∧ B m' n' ∧ R m' n' := ⟨m, n, rfl, rfl, h, k⟩
theorem i_len {xs : List D} {R : Prop} (h : xs.length ≤ 1000000) (k : R) : xs.length ≤ 1000000 ∧ R := ⟨h, k⟩
theorem i_g {o : Option En} {e2 : En} {R : En → Prop} (h : o = some e2) (k : R e2) : ∃ e2, o = some e2 ∧ R e2 := ⟨e2, h, k⟩
end
abbrev LI (l : List Int) : D := .list (l.map .int)
abbrev TI (l : List Int) : D := .tuple (l.map .int)
abbrev LP (l : List (Int × Int)) : D := .list (l.map dP)
abbrev TP (l : List (Int × Int)) : D := .tuple (l.map dP)
theorem powD_6 : powD (.int 10) (.int 6) = some (.int 1000000) := by simp [powD]
theorem powD_16 : powD (.int 10) (.int 16) = some (.int 10000000000000000) := by simp [powD]
theorem powD_18 : powD (.int 10) (.int 18) = some (.int 1000000000000000000) := by simp [powD]
theorem isTD_i {T : String} {i : Int} : isTD T (.int i) = some (.bool (isT T "int")) := rfl
theorem isTD_t (T : String) (xs : List D) : isTD T (.tuple xs) = some (.bool (isT T "tuple")) := rfl
theorem isTD_l (T : String) (xs : List D) : isTD T (.list xs) = some (.bool (isT T "list")) := rfl
theorem isTD_s (T : String) (x : Str) : isTD T (.str x) = some (.bool (isT T "str")) := rfl
theorem isTD_b (T : String) (b : Bool) : isTD T (.bool b) = some (.bool (isT T "bool")) := rfl
theorem isTD_n (T : String) : isTD T .none = some (.bool (isT T "NoneType")) := rfl
theorem isD_bb (a b : Bool) : isD (.bool a) (.bool b) = some (.bool (a == b)) := rfl
theorem isNotD_bb (a b : Bool) : isNotD (.bool a) (.bool b) = some (.bool (!(a == b))) := rfl
theorem isD_n' (u : Unit) : isD .none .none = some (.bool true) := rfl
theorem isD_lN (xs : List D) : isD (.list xs) .none = some (.bool false) := rfl
theorem isD_tN (xs : List D) : isD (.tuple xs) .none = some (.bool false) := rfl
theorem isNotD_lN (xs : List D) : isNotD (.list xs) .none = some (.bool true) := rfl
theorem isNotD_tN (xs : List D) : isNotD (.tuple xs) .none = some (.bool true) := rfl
theorem lenD_lm {α : Type} {f : α → D} {L : List α} : lenD [.list (L.map f)] = some (.int (L.length : Int)) := by simp [lenD]
theorem lenD_tm {α : Type} {f : α → D} {L : List α} : lenD [.tuple (L.map f)] = some (.int (L.length : Int)) := by simp [lenD]
theorem eqD_li (a b : List Int) : eqD (.list (a.map .int)) (.list (b.map .int)) = some (.bool (decide (a = b))) := by
  rw [eqD_lay (lay_lst (lay_ints a (k := 0))) (lay_lst (lay_ints b (k := 0))), eqv_lst eqv_ii]
theorem eqD_ti (a b : List Int) : eqD (.tuple (a.map .int)) (.tuple (b.map .int)) = some (.bool (decide (a = b))) := by
  rw [eqD_lay (lay_tup (lay_ints a (k := 0))) (lay_tup (lay_ints b (k := 0))), eqv_tup eqv_ii]
theorem neD_li (a b : List Int) : neD (.list (a.map .int)) (.list (b.map .int)) = some (.bool (!decide (a = b))) := by
  rw [neD_lay (lay_lst (lay_ints a (k := 0))) (lay_lst (lay_ints b (k := 0))), eqv_lst eqv_ii]
theorem neD_ti (a b : List Int) : neD (.tuple (a.map .int)) (.tuple (b.map .int)) = some (.bool (!decide (a = b))) := by
  rw [neD_lay (lay_tup (lay_ints a (k := 0))) (lay_tup (lay_ints b (k := 0))), eqv_tup eqv_ii]
theorem neD_l0 (a : List Int) : neD (.list (a.map .int)) (.list []) = some (.bool (!decide (a = []))) := neD_li a []
theorem eqD_l0 (a : List Int) : eqD (.list (a.map .int)) (.list []) = some (.bool (decide (a = []))) := eqD_li a []
theorem eqD_lp (a b : List (Int × Int)) : eqD (.list (a.map dP)) (.list (b.map dP)) = some (.bool (decide (a = b))) := by
  rw [eqD_lay (lay_lst (lay_map lay_dP a)) (lay_lst (lay_map lay_dP b)), eqv_lst eqv_dP]
theorem neD_lp (a b : List (Int × Int)) : neD (.list (a.map dP)) (.list (b.map dP)) = some (.bool (!decide (a = b))) := by
  rw [neD_lay (lay_lst (lay_map lay_dP a)) (lay_lst (lay_map lay_dP b)), eqv_lst eqv_dP]
theorem eqD_tp (a b : List (Int × Int)) : eqD (.tuple (a.map dP)) (.tuple (b.map dP)) = some (.bool (decide (a = b))) := by
  rw [eqD_lay (lay_tup (lay_map lay_dP a)) (lay_tup (lay_map lay_dP b)), eqv_tup eqv_dP]
theorem neD_tp (a b : List (Int × Int)) : neD (.tuple (a.map dP)) (.tuple (b.map dP)) = some (.bool (!decide (a = b))) := by
  rw [neD_lay (lay_tup (lay_map lay_dP a)) (lay_tup (lay_map lay_dP b)), eqv_tup eqv_dP]
theorem inD_li (x : Int) (xs : List Int) : inD (.int x) (.list (xs.map .int)) = some (.bool (decide (x ∈ xs))) := inD_l (k := 0) eqv_ii (fun i => lay_int i) x xs
theorem inD_ti (x : Int) (xs : List Int) : inD (.int x) (.tuple (xs.map .int)) = some (.bool (decide (x ∈ xs))) := inD_t (k := 0) eqv_ii (fun i => lay_int i) x xs
theorem notInD_li (x : Int) (xs : List Int) : notInD (.int x) (.list (xs.map .int)) = some (.bool (!decide (x ∈ xs))) := notInD_l (k := 0) eqv_ii (fun i => lay_int i) x xs
theorem notInD_ti (x : Int) (xs : List Int) : notInD (.int x) (.tuple (xs.map .int)) = some (.bool (!decide (x ∈ xs))) := notInD_t (k := 0) eqv_ii (fun i => lay_int i) x xs
theorem inD_lp (x : Int × Int) (xs : List (Int × Int)) : inD (dP x) (.list (xs.map dP)) = some (.bool (decide (x ∈ xs))) := inD_l eqv_dP lay_dP x xs
theorem inD_tp (x : Int × Int) (xs : List (Int × Int)) : inD (dP x) (.tuple (xs.map dP)) = some (.bool (decide (x ∈ xs))) := inD_t eqv_dP lay_dP x xs
theorem notInD_lp (x : Int × Int) (xs : List (Int × Int)) : notInD (dP x) (.list (xs.map dP)) = some (.bool (!decide (x ∈ xs))) := notInD_l eqv_dP lay_dP x xs
theorem notInD_tp (x : Int × Int) (xs : List (Int × Int)) : notInD (dP x) (.tuple (xs.map dP)) = some (.bool (!decide (x ∈ xs))) := notInD_t eqv_dP lay_dP x xs
theorem inD_lp' (a b : Int) (xs : List (Int × Int)) : inD (.tuple [.int a, .int b]) (.list (xs.map dP)) = some (.bool (decide ((a, b) ∈ xs))) := inD_lp (a, b) xs
theorem inD_tp' (a b : Int) (xs : List (Int × Int)) : inD (.tuple [.int a, .int b]) (.tuple (xs.map dP)) = some (.bool (decide ((a, b) ∈ xs))) := inD_tp (a, b) xs
theorem notInD_lp' (a b : Int) (xs : List (Int × Int)) : notInD (.tuple [.int a, .int b]) (.list (xs.map dP)) = some (.bool (!decide ((a, b) ∈ xs))) := notInD_lp (a, b) xs
theorem notInD_tp' (a b : Int) (xs : List (Int × Int)) : notInD (.tuple [.int a, .int b]) (.tuple (xs.map dP)) = some (.bool (!decide ((a, b) ∈ xs))) := notInD_tp (a, b) xs
theorem addD_lm {α : Type} {f : α → D} {a b : List α} (h : a.length + b.length ≤ 1000000) : addD (.list (a.map f)) (.list (b.map f)) = some (.list ((a ++ b).map f)) := by
  rw [List.map_append]; exact addD_l (by simpa using h)
theorem addD_tm {α : Type} {f : α → D} {a b : List α} (h : a.length + b.length ≤ 1000000) : addD (.tuple (a.map f)) (.tuple (b.map f)) = some (.tuple ((a ++ b).map f)) := by
  rw [List.map_append]; exact addD_t (by simpa using h)
theorem addD_tm1 {α : Type} {f : α → D} {a : List α} {x : α} (h : a.length < 1000000) : addD (.tuple (a.map f)) (.tuple [f x]) = some (.tuple ((a ++ [x]).map f)) := addD_tm (b := [x]) (by simp; omega)
theorem addLD_lm {α : Type} {f : α → D} {a b : List α} (h : a.length + b.length ≤ 1000000) : addLD (.list (a.map f)) (.list (b.map f)) = some (.list ((a ++ b).map f)) := by
  rw [List.map_append]; exact addLD_ok (by simpa using h)
theorem addD_1m {α : Type} {f : α → D} {x : α} {b : List α} (h : b.length ≤ 1000) : addD (.list [f x]) (.list (b.map f)) = some (.list ((x :: b).map f)) := addD_lm (a := [x]) (by simp; omega)
theorem repLD_0 {x n : Int} (h0 : -1000 ≤ n) (h1 : n ≤ 1000) : repLD (.list [.int x]) (.int n) = some (LI (List.replicate n.toNat x)) := by
  simp only [repLD, List.length_cons, List.length_nil, h0, h1, LI, List.map_replicate]
  rw [if_pos (by simp)]
  congr 2
  induction n.toNat with
  | zero => rfl
  | succ k ih => rw [List.replicate_succ, List.replicate_succ, List.flatten_cons, ih]; rfl
theorem appendF_m {α : Type} {f : α → D} {a : List α} {x : α} (h : a.length < 1000000) : appendF (a.map f) [f x] = some (.none, (a ++ [x]).map f) := by
  rw [appendF_ok (by simpa using h)]; simp
theorem extendF_m {α : Type} {f : α → D} {a b : List α} (h : a.length + b.length ≤ 1000000) : extendF (a.map f) [.list (b.map f)] = some (.none, (a ++ b).map f) := by
  rw [extendF_ok (by simpa using h)]; simp
theorem cut_to' {α : Type} {f : α → D} {L : List α} {c : Int} (h : 0 ≤ c) : cut (L.map f) none (some c) = (L.take c.toNat).map f := by
  simp only [cut, HT.sIx, Int.not_lt.mpr h]
  simp
theorem cut_from' {α : Type} {f : α → D} {L : List α} {c : Int} (h : 0 ≤ c) : cut (L.map f) (some c) none = (L.drop c.toNat).map f := by
  simp only [cut, HT.sIx, Int.not_lt.mpr h, if_false, List.length_map, ← List.map_drop]
  rw [List.take_of_length_le (by simp)]
  by_cases e : c.toNat ≤ L.length
  · rw [Nat.min_eq_left e]
  · rw [Nat.min_eq_right (by omega), List.drop_eq_nil_of_le (Nat.le_refl _), List.drop_eq_nil_of_le (by omega)]
theorem slT_tom {α : Type} {f : α → D} {L : List α} {c : Int} (h : 0 ≤ c) : slD (.tuple (L.map f)) none (some c) = some (.tuple ((L.take c.toNat).map f)) := by simp only [slD, cut_to' h]
theorem slT_frm {α : Type} {f : α → D} {L : List α} {c : Int} (h : 0 ≤ c) : slD (.tuple (L.map f)) (some c) none = some (.tuple ((L.drop c.toNat).map f)) := by simp only [slD, cut_from' h]
theorem slL_tom {α : Type} {f : α → D} {L : List α} {c : Int} (h : 0 ≤ c) : slD (.list (L.map f)) none (some c) = some (.list ((L.take c.toNat).map f)) := by simp only [slD, cut_to' h]
theorem slL_frm {α : Type} {f : α → D} {L : List α} {c : Int} (h : 0 ≤ c) : slD (.list (L.map f)) (some c) none = some (.list ((L.drop c.toNat).map f)) := by simp only [slD, cut_from' h]
theorem slL_m1 {α : Type} {f : α → D} {L : List α} : slD (.list (L.map f)) none (some (-1)) = some (.list (L.dropLast.map f)) := by
  have e1 : HT.sIx (L.map f).length (L.map f).length (some (-1)) = L.length - 1 := by simp [HT.sIx]; omega
  have e0 : HT.sIx (L.map f).length 0 none = 0 := rfl
  simp only [slD, cut, e1, e0, List.drop_zero, Nat.sub_zero]
  rw [← List.map_take, List.dropLast_eq_take]
/-- reading a row at a place -/
theorem ixN_int {n : Nat} {i : Int} (h0 : 0 ≤ i) (h1 : i < n) : ixN n i = some i.toNat := by simp [ixN, h0, h1]
theorem ixD_lm {α : Type} [Inhabited α] {f : α → D} {L : List α} {i : Int} (h0 : 0 ≤ i) (h1 : i < (L.length : Int)) : ixD (.list (L.map f)) (.int i) = some (f L[i.toNat]!) := by
  have h : i.toNat < L.length := by omega
  simp [ixD, ixN_int h0 (n := L.length) h1, h, getElem!_pos]
theorem ixD_tm {α : Type} [Inhabited α] {f : α → D} {L : List α} {i : Int} (h0 : 0 ≤ i) (h1 : i < (L.length : Int)) : ixD (.tuple (L.map f)) (.int i) = some (f L[i.toNat]!) := by
  have h : i.toNat < L.length := by omega
  simp [ixD, ixN_int h0 (n := L.length) h1, h, getElem!_pos]
theorem ixD_l0m {α : Type} {f : α → D} {x : α} {xs : List α} : ixD (.list ((x :: xs).map f)) (.int 0) = some (f x) := ixD_l0 _ _
theorem ixD_t0m {α : Type} {f : α → D} {x : α} {xs : List α} : ixD (.tuple ((x :: xs).map f)) (.int 0) = some (f x) := ixD_t0 _ _
theorem okD_s {a : Str} (h : PyData.canLay0 (.str a) = true) : okD (.str a) = true := by simp [okD, SeqAt.shaped, h, PyData.depth]
theorem eqD_s {a b : Str} (ha : PyData.canLay0 (.str a) = true) (hb : PyData.canLay0 (.str b) = true) : eqD (.str a) (.str b) = some (.bool (a == b)) := by
  simp [eqD, okD_s ha, okD_s hb, PyData.eqv]
theorem neD_s {a b : Str} (ha : PyData.canLay0 (.str a) = true) (hb : PyData.canLay0 (.str b) = true) : neD (.str a) (.str b) = some (.bool (!(a == b))) := by
  simp [neD, okD_s ha, okD_s hb, PyData.eqv]
theorem eqD_sT {a : Str} (ha : PyData.canLay0 (.str a) = true := by decide +kernel) : eqD (.str a) (.str a) = some (.bool true) := by rw [eqD_s ha ha]; simp
theorem eqD_sF {a b : Str} (h : (PyData.canLay0 (.str a) && PyData.canLay0 (.str b) && !(a == b)) = true := by decide +kernel) : eqD (.str a) (.str b) = some (.bool false) := by
  simp only [Bool.and_eq_true, Bool.not_eq_true'] at h
  rw [eqD_s h.1.1 h.1.2, h.2]
theorem neD_sT {a : Str} (ha : PyData.canLay0 (.str a) = true := by decide +kernel) : neD (.str a) (.str a) = some (.bool false) := by rw [neD_s ha ha]; simp
theorem neD_sF {a b : Str} (h : (PyData.canLay0 (.str a) && PyData.canLay0 (.str b) && !(a == b)) = true := by decide +kernel) : neD (.str a) (.str b) = some (.bool true) := by
  simp only [Bool.and_eq_true, Bool.not_eq_true'] at h
  rw [neD_s h.1.1 h.1.2, h.2]; rfl
theorem dP_0 (p : Int × Int) : ixD (dP p) (.int 0) = some (.int p.1) := rfl
theorem dP_1 (p : Int × Int) : ixD (dP p) (.int 1) = some (.int p.2) := rfl
abbrev gI (l : List Int) (i : Int) : Int := l[i.toNat]!
theorem gI_mem {l : List Int} {k : Int} (h0 : 0 ≤ k) (h1 : k < (l.length : Int)) : gI l k ∈ l := by
  unfold gI
  rw [getElem!_pos l k.toNat (by omega)]
  exact List.getElem_mem _
theorem gI_set {l : List Int} {i j v : Int} (h0 : 0 ≤ i) (h1 : i < (l.length : Int)) (h2 : 0 ≤ j) : gI (l.set i.toNat v) j = if j = i then v else gI l j := by
  unfold gI
  rw [List.getElem!_eq_getElem?_getD, List.getElem!_eq_getElem?_getD]
  by_cases c : j = i
  · subst c
    rw [if_pos rfl, List.getElem?_set_self (by omega)]; rfl
  · rw [if_neg c, List.getElem?_set_ne (by omega)]
theorem gI_map {l : List Int} {f : Int → Int} {j : Int} (h0 : 0 ≤ j) (h1 : j < (l.length : Int)) : gI (l.map f) j = f (gI l j) := by
  unfold gI
  rw [List.getElem!_eq_getElem?_getD, List.getElem!_eq_getElem?_getD, List.getElem?_map, List.getElem?_eq_getElem (by omega)]; rfl
theorem gI_irng {n j : Int} (h0 : 0 ≤ j) (h1 : j < n) : gI (irng 0 n) j = j := by
  unfold gI
  rw [List.getElem!_eq_getElem?_getD, ints_get (by omega)]
  simp only [Option.getD_some]
  omega
/-- what holds of all that is walked -/
def Fact {α : Type} (L : List α) (P : α → Prop) : Prop := ∀ x ∈ L, P x
theorem Fact.use {α : Type} {L : List α} {P : α → Prop} (h : Fact L P) {x : α} (hx : x ∈ L) : P x := h x hx
theorem i_idxL {f : D → D → Option D} {a b : WE} {e : En} {Q : D → En → Prop} (k : a e fun x e1 => ((∃ xs, x = .list xs) ∨ ∃ xs, x = xtD xs) ∧ b e1 fun y e2 => ∃ z, f x y = some z ∧ Q z e2) : wIdx f a b e Q := k
theorem i_idl {xs : List D} {R : Prop} (k : R) : ((∃ ys, PyData.list xs = .list ys) ∨ ∃ ys, PyData.list xs = xtD ys) ∧ R := ⟨.inl ⟨_, rfl⟩, k⟩
theorem i_idx {xs : List D} {R : Prop} (k : R) : ((∃ ys, xtD xs = .list ys) ∨ ∃ ys, xtD xs = xtD ys) ∧ R := ⟨.inr ⟨_, rfl⟩, k⟩
theorem idxD_li {l : List Int} {k : Int} (h : k ∈ l) : idxD (l.map .int) (.int k) = some (.int (l.idxOf k : Int)) := by
  unfold idxD
  rw [List.findIdx?_map]
  have e : ((fun z => PyData.eqv z (PyData.int k)) ∘ PyData.int) = fun z => z == k := by
    funext z
    simp only [Function.comp, eqv_ii]
    exact Bool.beq_eq_decide_eq z k ▸ rfl
  rw [e, List.findIdx?_eq_some_of_exists ⟨k, h, by simp⟩]
  rfl
theorem indexD_li {l : List Int} {k : Int} (h : k ∈ l) : indexD (LI l) (.int k) = some (.int (l.idxOf k : Int)) := by
  simp only [indexD, lay_ok (lay_lst (lay_ints l (k := 0))), lay_ok (lay_int k (k := 0)), and_self, if_true]
  exact idxD_li h
theorem indexD_xi {l : List Int} {k : Int} (h : k ∈ l) : indexD (xtD (l.map .int)) (.int k) = some (.int (l.idxOf k : Int)) := by
  simp only [indexD, xtD, lay_ok (lay_tup (lay_ints l (k := 0))), lay_ok (lay_int k (k := 0)), and_self, if_true]
  exact idxD_li h
theorem removeF_i {l : List Int} {k : Int} (h : k ∈ l) : removeF (l.map .int) [.int k] = some (.none, (l.erase k).map .int) := by simp [removeF, h]
theorem tupRevD_m {α : Type} {f : α → D} {l : List α} : tupRevD (.list (l.map f)) = some (.tuple (l.reverse.map f)) := by simp [tupRevD, List.map_reverse]
theorem map_eraseI {α β : Type} (f : α → β) : ∀ (l : List α) (k : Nat), (l.map f).eraseIdx k = (l.eraseIdx k).map f
  | [], k => by simp
  | _ :: _, 0 => by simp
  | a :: l, k + 1 => by simp [map_eraseI f l k]
theorem popAtF_m {α : Type} [Inhabited α] {f : α → D} {L : List α} {i : Int} (h0 : 0 ≤ i) (h1 : i < (L.length : Int)) : popAtF (L.map f) [.int i] = some (f L[i.toNat]!, (L.eraseIdx i.toNat).map f) := by
  have h : i.toNat < L.length := by omega
  have := popAtF_ok (xs := L.map f) (y := f L[i.toNat]!) (i := i.toNat) (by rw [List.getElem?_map, List.getElem?_eq_getElem h, getElem!_pos L i.toNat h]; rfl)
  rw [Int.toNat_of_nonneg h0] at this
  rw [this, map_eraseI]
theorem zipD_map {α β : Type} (f : α → D) (g : β → D) : ∀ (L : List α) (M : List β), zipD (L.map f) (M.map g) = (L.zip M).map fun z => .tuple [f z.1, g z.2]
  | [], _ => by simp [zipD]
  | _ :: _, [] => by simp [zipD]
  | x :: L, y :: M => by
    have := zipD_map f g L M
    unfold zipD at this ⊢
    simp [this]
theorem i_zipT {α β : Type} {f : α → D} {g : β → D} {L : List α} {M : List β} {QI : List D → En → Prop} {e : En} (k : QI ((L.zip M).map fun z => .tuple [f z.1, g z.2]) e) : zipK QI (.tuple (L.map f)) (.tuple (M.map g)) e := ⟨_, _, rfl, rfl, rfl, by rw [zipD_map]; exact k⟩
theorem i_lzT {α β : Type} {f : α → D} {g : β → D} {L : List α} {M : List β} {Q : D → En → Prop} {e : En} (k : Q (.list ((L.zip M).map fun z => .tuple [f z.1, g z.2])) e) : lstZK Q (.tuple (L.map f)) (.tuple (M.map g)) e := ⟨_, _, rfl, rfl, by rw [zipD_map]; exact k⟩
theorem i_lzL {α β : Type} {f : α → D} {g : β → D} {L : List α} {M : List β} {Q : D → En → Prop} {e : En} (k : Q (.list ((L.zip M).map fun z => .tuple [f z.1, g z.2])) e) : lstZK Q (.list (L.map f)) (.list (M.map g)) e := ⟨_, _, rfl, rfl, by rw [zipD_map]; exact k⟩
theorem i_zipL {α β : Type} {f : α → D} {g : β → D} {L : List α} {M : List β} {QI : List D → En → Prop} {e : En} (k : QI ((L.zip M).map fun z => .tuple [f z.1, g z.2]) e) : zipK QI (.list (L.map f)) (.list (M.map g)) e := ⟨_, _, rfl, rfl, rfl, by rw [zipD_map]; exact k⟩
abbrev enumL {α : Type} (L : List α) : List (Int × α) := (irng 0 L.length).zip L
theorem enumD_map {α : Type} (f : α → D) (L : List α) : enumD (L.map f) = (enumL L).map fun z => .tuple [.int z.1, f z.2] := by
  unfold enumD enumL
  rw [List.length_map, rangeD_ints, zipD_map]
theorem i_enum {α : Type} {f : α → D} {L : List α} {x : D} {QI : List D → En → Prop} {e : En} (h : seqD x = some (L.map f)) (k : QI ((enumL L).map fun z => .tuple [.int z.1, f z.2]) e) : enumK QI x e := ⟨_, h, by rw [enumD_map]; exact k⟩
theorem mem_enumL {α : Type} [Inhabited α] {L : List α} {z : Int × α} (h : z ∈ enumL L) : 0 ≤ z.1 ∧ z.1 < (L.length : Int) ∧ z.2 = L[z.1.toNat]! ∧ z.2 ∈ L := by
  unfold enumL at h
  obtain ⟨i, hi, e⟩ := List.mem_iff_getElem.mp h
  rw [List.getElem_zip] at e
  rw [List.length_zip, ints_len] at hi
  subst e
  have e1 : (irng 0 (L.length : Int))[i]'(by rw [ints_len]; omega) = (i : Int) := by simp [irng]
  simp only [e1, Int.toNat_natCast]
  exact ⟨by omega, by omega, by rw [getElem!_pos L i (by omega)], List.getElem_mem _⟩
def upd : En → List Nat → List (Option D) → En
  | e, i :: is, v :: vs => upd (e.set i v) is vs
  | e, _, _ => e
abbrev J2 (vs : List (Option D)) : Prop := ∃ a0 a1, vs = [a0, a1]
abbrev J3 (vs : List (Option D)) : Prop := ∃ a0 a1 a2, vs = [a0, a1, a2]
abbrev J8 (vs : List (Option D)) : Prop := ∃ a0 a1 a2 a3 a4 a5 a6 a7, vs = [a0, a1, a2, a3, a4, a5, a6, a7]
section
variable {α : Type} {enc : α → D} {L : List α} {g : WG} {b p q : WS} {t : WT} {nx bk ct : En → Prop} {rt : D → En → Prop} {e : En}
theorem for_st (sl : List Nat) (Inv : List α → List (Option D) → Prop) (vs0 : List (Option D)) (he : upd e sl vs0 = e) (h0 : Inv [] vs0)
    (hs : ∀ pre x post vs, L = pre ++ x :: post → Inv pre vs → ∀ R : En → Prop, (∀ vs', Inv (pre ++ [x]) vs' → R (upd e sl vs')) → ∃ e1, g (enc x) (upd e sl vs) = some e1 ∧ b ⟨R, rt, nx, R⟩ e1)
    (hend : ∀ vs, Inv L vs → nx (upd e sl vs)) : forL g b ⟨nx, rt, bk, ct⟩ (L.map enc) e := by
  have key : ∀ (post pre : List α) (vs : List (Option D)), L = pre ++ post → Inv pre vs → forL g b ⟨nx, rt, bk, ct⟩ (post.map enc) (upd e sl vs) := by
    intro post
    induction post with
    | nil =>
      intro pre vs hL hI
      rw [List.append_nil] at hL
      subst hL
      exact hend vs hI
    | cons x post ih =>
      intro pre vs hL hI
      exact hs pre x post vs hL hI _ fun vs' hI' => ih (pre ++ [x]) vs' (by rw [hL]; simp) hI'
  have := key L [] vs0 rfl h0
  rwa [he] at this
end
section
variable {α β : Type} {enc : α → D} {en2 : β → D} {L : List α} {g : WG} {vs : List Nat} {t : WT} {b : WE} {Q : List D → En → Prop} {e : En}
theorem comp_el {α : Type} {h : α → D} {xs : List α} (p : α → Bool) (f : α → β)
    (hs : ∀ x ∈ xs, ∃ e1, g (h x) e = some e1 ∧ (∀ R : Bool → En → Prop, R (p x) e1 → t e1 R) ∧ (p x = true → ∀ R : D → En → Prop, R (en2 (f x)) e1 → b e1 R) ∧ wp e1 vs = e) (hq : Q (((xs.filter p).map f).map en2) e) : compL g vs t b Q (xs.map h) [] e :=
  compL_map (h := h) (xs := xs) (acc := []) p (fun x => en2 (f x)) hs (by rw [List.nil_append]; rw [List.map_map] at hq; exact hq)
theorem comp_fil {α : Type} {h : α → D} {xs : List α} (p : α → Bool)
    (hs : ∀ x ∈ xs, ∃ e1, g (h x) e = some e1 ∧ (∀ R : Bool → En → Prop, R (p x) e1 → t e1 R) ∧ (p x = true → ∀ R : D → En → Prop, R (h x) e1 → b e1 R) ∧ wp e1 vs = e) (hq : Q ((xs.filter p).map h) e) : compL g vs t b Q (xs.map h) [] e :=
  compL_map (h := h) (xs := xs) (acc := []) p h hs (by rw [List.nil_append]; exact hq)
theorem comp_all {α : Type} {h : α → D} {xs : List α} (f : α → β)
    (hs : ∀ x ∈ xs, ∃ e1, g (h x) e = some e1 ∧ (∀ R : D → En → Prop, R (en2 (f x)) e1 → b e1 R) ∧ wp e1 vs = e) (hq : Q ((xs.map f).map en2) e) : compL g vs G7.tYes b Q (xs.map h) [] e := by
  refine comp_el (en2 := en2) (fun _ => true) f (fun x hx => ?_) (by rw [show xs.filter (fun _ => true) = xs from List.filter_eq_self.mpr fun _ _ => rfl]; exact hq)
  obtain ⟨e1, h1, h2, h3⟩ := hs x hx
  exact ⟨e1, h1, fun R h => h, fun _ => h2, h3⟩
theorem comp_allD {xs : List D} (f : D → β)
    (hs : ∀ x ∈ xs, ∃ e1, g x e = some e1 ∧ (∀ R : D → En → Prop, R (en2 (f x)) e1 → b e1 R) ∧ wp e1 vs = e) (hq : Q ((xs.map f).map en2) e) : compL g vs G7.tYes b Q xs [] e := by
  have := comp_all (h := id) (xs := xs) f hs hq
  rwa [List.map_id] at this
end
end G7

namespace G7
namespace Lib
open PySem
/-- _law_next(pool, base): slots 0 pool:p, 1 base:r, 2 digit:v, 3 mixed:v, 4 stir:v; modes ['pl', 'rd']; answer fz -/
def wb_l_next : WS :=
  (wSeq (wIf (tVal (wOp2 gtD (wPlIx 0) (wC (.int 0)))) (wSeq (wAsg 2 (wOp2 modD (wPlIx 0) (wVar 1)))
    (wSeq (wPlSet 0 (wOp2 fdivD (wPlIx 0) (wVar 1)))
    (wRet (wVar 2)))) wNil)
    (wSeq (wPlSet 0 (wOp2 addD (wPlIx 0) (wC (.int 1))))
    (wSeq (wAsg 3 (wOp2 modD (wOp2 addD (wPlIx 0) (wOp2 mulID (wC (.int 7919)) (wPlIx 0))) (wC (.int 1000000007))))
    (wSeq (wAsg 4 (wOp2 modD (wOp2 mulID (wOp2 addD (wVar 3) (wC (.int 11))) (wOp2 addD (wVar 3) (wC (.int 48271)))) (wC (.int 998244353))))
    (wRet (wOp2 modD (wOp2 fdivD (wOp2 modD (wOp2 mulID (wVar 4) (wVar 4)) (wC (.int 2147483647))) (wC (.int 8))) (wVar 1)))))))
/-- _law_web(pool, most): slots 0 pool:p, 1 most:r, 2 many:v, 3 way:v, 4 lack:v, 5 cut:v, 6 roots:v, 7 some:o, 8 a:v, 9 b:v, 10 chance:v, 11 lucky:v, 12 place:v; modes ['pl', 'rd']; answer fz -/
def wb_l_web (S_l_next : FS) : WS :=
  (wSeq (wAsg 2 (wOp2 addD (wC (.int 1)) (wCall S_l_next (waCons (wVar 0) (waCons (wVar 1) waNil)))))
    (wSeq (wAsg 3 (wCall S_l_next (waCons (wVar 0) (waCons (wC (.int 7)) waNil))))
    (wSeq (wAsg 4 (wOp2 addD (wC (.int 2)) (wCall S_l_next (waCons (wVar 0) (waCons (wC (.int 4)) waNil)))))
    (wSeq (wAsg 5 (wCall S_l_next (waCons (wVar 0) (waCons (wVar 2) waNil))))
    (wSeq (wAsg 6 (wComp (wiRg1 (wVar 2)) (gN 12) [12] G7.tYes (wCall S_l_next (waCons (wVar 0) (waCons (wBlt max2D (waCons (wC (.int 1)) (waCons (wVar 12) waNil))) waNil)))))
    (wSeq (wAsg 7 (wList waNil))
    (wSeq (wFor (wiRg1 (wVar 2)) (gN 8) (wFor (wiRg2 (wOp2 addD (wVar 8) (wC (.int 1))) (wVar 2)) (gN 9) (wSeq (wAsg 10 (wCall S_l_next (waCons (wVar 0) (waCons (wC (.int 6)) waNil))))
    (wSeq (wAsg 11 (wList (waCons (wOr (wOp2 eqD (wOp2 addD (wVar 8) (wC (.int 1))) (wVar 9)) (wAnd (wOp2 eqD (wVar 8) (wC (.int 0))) (wOp2 eqD (wOp2 addD (wVar 9) (wC (.int 1))) (wVar 2)))) (waCons (wOp2 ltD (wVar 10) (wOp2 addD (wVar 4) (wC (.int 3)))) (waCons (wOp2 eqD (wVar 10) (wC (.int 0))) (waCons (wOp2 eqD (wOp2 ixD (wVar 6) (wVar 9)) (wVar 8)) waNil))))))
    (wSeq (wAsg 11 (wOp2 addD (wVar 11) (wList (waCons (wAnd (wOp2 eqD (wOp2 ltD (wVar 8) (wVar 5)) (wOp2 ltD (wVar 9) (wVar 5))) (wOp2 ltD (wVar 10) (wC (.int 4)))) (waCons (wOp2 ltD (wVar 10) (wVar 4)) (waCons (wOr (wOp2 ltD (wVar 10) (wC (.int 3))) (wOp2 eqD (wOp2 ixD (wVar 6) (wVar 9)) (wVar 8))) waNil))))))
    (wIf (tAnd (tVal (wOp2 ixD (wVar 11) (wVar 3))) (tVal (wOp2 ltD (wBlt lenD (waCons (wVar 7) waNil)) (wC (.int 20))))) (wExpr (wMut 7 appendF (waCons (wTup (waCons (wVar 8) (waCons (wVar 9) waNil))) waNil))) wNil))))))
    (wRet (wTup (waCons (wVar 2) (waCons (wBlt tupD (waCons (wVar 7) waNil)) waNil)))))))))))
/-- _law_pool(cell): slots 0 cell:r; modes ['rd']; answer nw -/
def wb_l_pool : WS :=
  (wRet (wList (waCons (wBlt max2D (waCons (wC (.int 0)) (waCons (wOp2 subD (wVar 0) (wOp2 powD (wC (.int 10)) (wC (.int 18)))) waNil))) (waCons (wOp2 modD (wVar 0) (wOp2 powD (wC (.int 10)) (wC (.int 18)))) (waCons (wC (.int 0)) waNil)))))
/-- _law_sound(thing): slots 0 thing:r; modes ['rd']; answer fz -/
def wb_l_sound : WS :=
  (wRet (wAnd (wOp1 (isTD "int") (wVar 0)) (wNot (wOp1 (isTD "bool") (wVar 0)))))
structure Web where
  n : Int
  ts : List (Int × Int)
def dW (w : Web) : D := .tuple [.int w.n, .tuple (w.ts.map dP)]
def lexP (s t : Int × Int) : Prop := s.1 < t.1 ∨ (s.1 = t.1 ∧ s.2 < t.2)
structure Web.ok (w : Web) : Prop where
  n1 : 1 ≤ w.n
  n9 : w.n ≤ 9
  len : w.ts.length ≤ 20
  rg : ∀ t ∈ w.ts, 0 ≤ t.1 ∧ t.1 < t.2 ∧ t.2 < w.n
  srt : w.ts.Pairwise lexP
def nearF (w : Web) (p : Int) : List Int := isort ((w.ts.filter fun t => decide (p = t.1) || decide (p = t.2)).map fun t => t.1 + t.2 - p)
def S_l_next : FS := fun ds Post => ∃ b : Int, ds = [.none, .int b] ∧ 0 < b ∧ b < 1073741824 ∧ ∀ r, 0 ≤ r → r < b → Post (.int r)
theorem m_l_next {rk : RK} : ∀ ds Post, S_l_next ds Post → wb_l_next { nx := fun _ => Post .none ∧ rk = .fz, rt := fun d _ => Post d } (startE 5 ds) := by
  rintro ds Post ⟨b, rfl, h0, h1, h⟩
  unfold wb_l_next startE
  have m1 : ∀ x : Int, mulID (.int 7919) (.int x) = some (.int (7919 * x)) := fun x => mulID_i (okMul_l (by omega) (by omega))
  have m2 : ∀ x : Int, mulID (.int (x % 1000000007 + 11)) (.int (x % 1000000007 + 48271)) = some (.int ((x % 1000000007 + 11) * (x % 1000000007 + 48271))) := fun x => mulID_i (okMul_l (by omega) (by omega))
  have m3 : ∀ x : Int, mulID (.int (x % 998244353)) (.int (x % 998244353)) = some (.int ((x % 998244353) * (x % 998244353))) := fun x => mulID_i (okMul_l (by omega) (by omega))
  simp [-Bool.exists_bool, -List.map_map, h0, h1, m1, m2, m3]
  intro x
  split
  · exact fun y => h _ (Int.emod_nonneg _ (by omega)) (Int.emod_lt_of_pos _ h0)
  · exact fun y z => h _ (Int.emod_nonneg _ (by omega)) (Int.emod_lt_of_pos _ h0)
/-- a draw -/
theorem next_i {b : Int} {Post : D → Prop} (h0 : 0 < b) (h1 : b < 1073741824) (h : ∀ r, 0 ≤ r → r < b → Post (.int r)) : S_l_next [.none, .int b] Post := ⟨b, rfl, h0, h1, h⟩
def S_l_pool : FS := fun ds Post => ∃ c : Int, ds = [.int c] ∧ ∀ x y z : Int, Post (.list [.int x, .int y, .int z])
theorem m_l_pool {rk : RK} : ∀ ds Post, S_l_pool ds Post → wb_l_pool { nx := fun _ => Post .none ∧ rk = .fz, rt := fun d _ => Post d } (startE 1 ds) := by
  rintro ds Post ⟨c, rfl, h⟩
  unfold wb_l_pool startE
  simp [-Bool.exists_bool, -List.map_map, powD, h]
def S_l_sound : FS := fun ds Post => ∃ d, ds = [d] ∧ Post (.bool (tyD d == "int"))
theorem isT_int (t : String) : (if (t == "int" || t == "bool") = true then !(t == "bool") else false) = (t == "int") := by
  by_cases h1 : t = "int"
  · subst h1; decide
  · by_cases h2 : t = "bool"
    · subst h2; decide
    · simp [h1, h2]
theorem m_l_sound {rk : RK} : ∀ ds Post, S_l_sound ds Post → wb_l_sound { nx := fun _ => Post .none ∧ rk = .fz, rt := fun d _ => Post d } (startE 1 ds) := by
  rintro ds Post ⟨d, rfl, h⟩
  unfold wb_l_sound startE
  simp only [r_ret, r_and, r_op1, r_var, r_not]
  refine ⟨d, rfl, _, rfl, _, rfl, ?_⟩
  have e1 : isT "int" (tyD d) = (tyD d == "int" || tyD d == "bool") := by simp [isT]
  have e2 : isT "bool" (tyD d) = (tyD d == "bool") := by simp [isT]
  have := isT_int (tyD d)
  rw [e1]
  split
  · rename_i hc
    rw [if_pos hc] at this
    refine ⟨d, rfl, _, rfl, _, rfl, ?_⟩
    rw [e2, this]; exact h
  · rename_i hc
    rw [if_neg hc] at this
    rw [this]; exact h
def S_l_web : FS := fun ds Post => ∃ m : Int, ds = [.none, .int m] ∧ 1 ≤ m ∧ m ≤ 9 ∧ ∀ w : Web, w.ok → w.n ≤ m → Post (dW w)
theorem m_l_web {rk : RK} : ∀ ds Post, S_l_web ds Post → wb_l_web S_l_next { nx := fun _ => Post .none ∧ rk = .fz, rt := fun d _ => Post d } (startE 13 ds) := by
  rintro ds Post ⟨m, rfl, hm1, hm9, h⟩
  unfold wb_l_web startE
  simp [-Bool.exists_bool, -List.map_map, r_comp]
  refine next_i (by omega) (by omega) fun r0 a0 b0 => ?_
  simp [-Bool.exists_bool, -List.map_map]
  refine next_i (by omega) (by omega) fun way wa0 wa7 => next_i (by omega) (by omega) fun la la0 la4 => ?_
  simp [-Bool.exists_bool, -List.map_map]
  refine next_i (by omega) (by omega) fun cu cu0 cu1 => ⟨by omega, by omega, ?_⟩
  have hn : ∃ n : Int, n = 1 + r0 := ⟨_, rfl⟩
  obtain ⟨n, en⟩ := hn
  rw [← en]
  have n1 : 1 ≤ n := by omega
  have n9 : n ≤ 9 := by omega
  -- the roots
  refine compL_inv (fun i acc e => e = [some .none, some (.int m), some (.int n), some (.int way), some (.int (2 + la)), some (.int cu), none, none, none, none, none, none, none] ∧ ∃ rs : List Int, acc = rs.map .int ∧ rs.length = i) ⟨rfl, [], rfl, rfl⟩ ?_ ?_
  · rintro i x acc e hx ⟨rfl, rs, rfl, hl⟩
    rw [rangeD_ints] at hx
    obtain ⟨p, hp, rfl⟩ : ∃ p, p ∈ irng 0 n ∧ PyData.int p = x := by
      have := List.mem_of_getElem? hx
      simpa using this
    have hp' := mem_ints.mp hp
    refine ⟨_, rfl, fun R hR => ?_⟩
    simp [-Bool.exists_bool, -List.map_map]
    refine next_i (by split <;> omega) (by split <;> omega) fun r r0 r1 => ?_
    have := hR ((rs.map .int) ++ [.int r]) _ ⟨rfl, rs ++ [r], by simp, by simp [hl]⟩
    simpa using this
  · rintro acc e ⟨rfl, rs, rfl, hl⟩
    rw [rangeD_ints, List.length_map, ints_len] at hl
    simp [-Bool.exists_bool, -List.map_map]
    refine ⟨by omega, by omega, ?_⟩
    refine forL_inv (fun i e => ∃ (ps : List (Int × Int)) (A B C L : Option D), e = [some .none, some (.int m), some (.int n), some (.int way), some (.int (2 + la)), some (.int cu), some (.list (rs.map .int)), some (.list (ps.map dP)), A, B, C, L, none] ∧
      ps.length ≤ 20 ∧ ps.Pairwise lexP ∧ ∀ t ∈ ps, 0 ≤ t.1 ∧ t.1 < t.2 ∧ t.2 < n ∧ t.1 < (i : Int)) ⟨[], none, none, none, none, rfl, by simp, .nil, by simp⟩ ?_ ?_
    · rintro i e x R hx ⟨ps, A, B, C, L, rfl, hl20, hsr, hrg⟩ hR
      rw [rangeD_ints] at hx
      have hi : i < (n - 0).toNat := by
        have := (List.getElem?_eq_some_iff.mp hx).1
        simpa [ints_len] using this
      rw [List.getElem?_map, ints_get hi] at hx
      simp at hx
      subst hx
      simp [-Bool.exists_bool, -List.map_map]
      refine ⟨by omega, by omega, by omega, by omega, ?_⟩
      refine forL_inv (fun j e => ∃ (ps : List (Int × Int)) (B C L : Option D), e = [some .none, some (.int m), some (.int n), some (.int way), some (.int (2 + la)), some (.int cu), some (.list (rs.map .int)), some (.list (ps.map dP)), some (.int (i : Int)), B, C, L, none] ∧
        ps.length ≤ 20 ∧ ps.Pairwise lexP ∧ ∀ t ∈ ps, 0 ≤ t.1 ∧ t.1 < t.2 ∧ t.2 < n ∧ (t.1 < (i : Int) ∨ (t.1 = (i : Int) ∧ t.2 < (i : Int) + 1 + (j : Int)))) ⟨ps, B, C, L, rfl, hl20, hsr, fun t ht => ⟨(hrg t ht).1, (hrg t ht).2.1, (hrg t ht).2.2.1, .inl (hrg t ht).2.2.2⟩⟩ ?_ ?_
      · rintro j e x R' hx ⟨ps, B, C, L, rfl, hl20, hsr, hrg⟩ hR'
        rw [rangeD_ints] at hx
        have hj : j < (n - ((i : Int) + 1)).toNat := by
          have := (List.getElem?_eq_some_iff.mp hx).1
          simpa [ints_len] using this
        rw [List.getElem?_map, ints_get hj] at hx
        simp at hx
        subst hx
        have hroot : ∃ r : Int, ixD (.list (rs.map .int)) (.int ((i : Int) + 1 + (j : Int))) = some (.int r) := by
          have hk : i + 1 + j < rs.length := by omega
          refine ⟨rs[i + 1 + j], ?_⟩
          have := ixD_l (xs := rs.map .int) (i := i + 1 + j) (x := .int rs[i + 1 + j]) (by rw [List.getElem?_map, List.getElem?_eq_getElem hk]; rfl)
          rwa [show (((i + 1 + j : Nat)) : Int) = (i : Int) + 1 + (j : Int) by omega] at this
        obtain ⟨r, hroot⟩ := hroot
        refine ⟨_, rfl, ?_⟩
        refine seq_cut (fun e => ∃ ch : Int, e = [some .none, some (.int m), some (.int n), some (.int way), some (.int (2 + la)), some (.int cu), some (.list (rs.map .int)), some (.list (ps.map dP)), some (.int (i : Int)), some (.int ((i : Int) + 1 + (j : Int))), some (.int ch), L, none]) (fun R hR => ?_) ?_
        · simp [-Bool.exists_bool, -List.map_map]
          exact next_i (by omega) (by omega) fun ch ch0 ch6 => hR _ ⟨ch, rfl⟩
        rintro _ ⟨ch, rfl⟩
        refine seq_cut (fun e => ∃ l0 l1 l2 l3 : Bool, e = [some .none, some (.int m), some (.int n), some (.int way), some (.int (2 + la)), some (.int cu), some (.list (rs.map .int)), some (.list (ps.map dP)), some (.int (i : Int)), some (.int ((i : Int) + 1 + (j : Int))), some (.int ch), some (.list [.bool l0, .bool l1, .bool l2, .bool l3]), none]) (fun R hR => ?_) ?_
        · simp [-Bool.exists_bool, -List.map_map, hroot]
          repeat' (first | exact hR _ ⟨_, _, _, _, rfl⟩ | split)
        rintro _ ⟨l0, l1, l2, l3, rfl⟩
        refine seq_cut (fun e => ∃ l4 l5 l6 : Bool, e = [some .none, some (.int m), some (.int n), some (.int way), some (.int (2 + la)), some (.int cu), some (.list (rs.map .int)), some (.list (ps.map dP)), some (.int (i : Int)), some (.int ((i : Int) + 1 + (j : Int))), some (.int ch), some (.list ([l0, l1, l2, l3, l4, l5, l6].map .bool)), none]) (fun R hR => ?_) ?_
        · simp [-Bool.exists_bool, -List.map_map, hroot, addD]
          repeat' (first | exact hR _ ⟨_, _, _, rfl⟩ | split)
        rintro _ ⟨l4, l5, l6, rfl⟩
        have hluck : ∃ b : Bool, ixD (.list ([l0, l1, l2, l3, l4, l5, l6].map .bool)) (.int way) = some (.bool b) := by
          obtain ⟨k, rfl⟩ : ∃ k : Nat, way = (k : Int) := ⟨way.toNat, by omega⟩
          have hk : k < 7 := by omega
          refine ⟨[l0, l1, l2, l3, l4, l5, l6].getD k false, ixD_l ?_⟩
          match k, hk with
          | 0, _ => rfl
          | 1, _ => rfl
          | 2, _ => rfl
          | 3, _ => rfl
          | 4, _ => rfl
          | 5, _ => rfl
          | 6, _ => rfl
        obtain ⟨lk, hluck⟩ := hluck
        have same : R' _ := hR' _ ⟨ps, some (.int ((i : Int) + 1 + (j : Int))), some (.int ch), some (.list ([l0, l1, l2, l3, l4, l5, l6].map .bool)), rfl, hl20, hsr, fun t ht => ⟨(hrg t ht).1, (hrg t ht).2.1, (hrg t ht).2.2.1, (hrg t ht).2.2.2.imp id fun q => ⟨q.1, by omega⟩⟩⟩
        simp [-Bool.exists_bool, -List.map_map, -List.map_cons, hluck, appendF]
        cases lk with
        | false => simpa using same
        | true =>
          simp [-List.map_map, -List.map_cons]
          split
          · rename_i h20
            refine ⟨_, _, ⟨by omega, rfl, rfl⟩, ?_⟩
            have := hR' [some .none, some (.int m), some (.int n), some (.int way), some (.int (2 + la)), some (.int cu), some (.list (rs.map .int)), some (.list ((ps ++ [((i : Int), (i : Int) + 1 + (j : Int))]).map dP)), some (.int (i : Int)), some (.int ((i : Int) + 1 + (j : Int))), some (.int ch), some (.list ([l0, l1, l2, l3, l4, l5, l6].map .bool)), none]
              ⟨_, _, _, _, rfl, by simp; omega, ?_, ?_⟩
            · simpa [dP] using this
            · rw [List.pairwise_append]
              refine ⟨hsr, by simp, fun s hs t ht => ?_⟩
              simp at ht; subst ht
              rcases (hrg s hs).2.2.2 with q | q
              · exact .inl q
              · exact .inr ⟨q.1, by simp; omega⟩
            · intro t ht
              rcases List.mem_append.mp ht with ht | ht
              · exact ⟨(hrg t ht).1, (hrg t ht).2.1, (hrg t ht).2.2.1, (hrg t ht).2.2.2.imp id fun q => ⟨q.1, by omega⟩⟩
              · simp at ht; subst ht
                exact ⟨by show (0 : Int) ≤ i; omega, by show (i : Int) < i + 1 + j; omega, by show (i : Int) + 1 + j < n; omega, .inr ⟨rfl, by show (i : Int) + 1 + j < i + 1 + ((j + 1 : Nat) : Int); omega⟩⟩
          · exact same
      · rintro e ⟨ps, B, C, L, rfl, hl20, hsr, hrg⟩
        refine hR _ ⟨ps, some (.int (i : Int)), B, C, L, rfl, hl20, hsr, fun t ht => ⟨(hrg t ht).1, (hrg t ht).2.1, (hrg t ht).2.2.1, ?_⟩⟩
        rcases (hrg t ht).2.2.2 with q | q <;> omega
    · rintro e ⟨ps, A, B, C, L, rfl, hl20, hsr, hrg⟩
      simp [-Bool.exists_bool, -List.map_map]
      exact h ⟨n, ps⟩ ⟨n1, n9, hl20, fun t ht => ⟨(hrg t ht).1, (hrg t ht).2.1, (hrg t ht).2.2.1⟩, hsr⟩ (by show n ≤ m; omega)
end Lib
end G7

namespace G7
namespace Lib
open PySem
open Classical in
theorem strict_ext : ∀ {l m : List Int}, l.Pairwise (· < ·) → m.Pairwise (· < ·) → (∀ x, x ∈ l ↔ x ∈ m) → l = m
  | [], [], _, _, _ => rfl
  | [], y :: m, _, _, h => by have := (h y).mpr (by simp); simp at this
  | x :: l, [], _, _, h => by have := (h x).mp (by simp); simp at this
  | x :: l, y :: m, hl, hm, h => by
    have hl' := List.pairwise_cons.mp hl
    have hm' := List.pairwise_cons.mp hm
    have e : x = y := by
      rcases List.mem_cons.mp ((h x).mp (by simp)) with e | h1
      · exact e
      · rcases List.mem_cons.mp ((h y).mpr (by simp)) with e | h2
        · exact e.symm
        · have a := hm'.1 x h1
          have b := hl'.1 y h2
          omega
    subst e
    rw [strict_ext hl'.2 hm'.2 fun z => ?_]
    constructor
    · intro hz
      rcases List.mem_cons.mp ((h z).mp (by simp [hz])) with e | q
      · subst e; have := hl'.1 z hz; omega
      · exact q
    · intro hz
      rcases List.mem_cons.mp ((h z).mpr (by simp [hz])) with e | q
      · subst e; have := hm'.1 z hz; omega
      · exact q
/-- tied -/
def T (w : Web) (a b : Int) : Prop := (a, b) ∈ w.ts ∨ (b, a) ∈ w.ts
theorem T.symm {w : Web} {a b : Int} (h : T w a b) : T w b a := h.elim .inr .inl
theorem T.rg {w : Web} (o : w.ok) {a b : Int} (h : T w a b) : 0 ≤ a ∧ a < w.n ∧ 0 ≤ b ∧ b < w.n ∧ a ≠ b := by
  rcases h with h | h <;> have := o.rg _ h <;> simp at this <;> omega
inductive Reach (w : Web) (p : Int) : Int → Prop
  | refl : Reach w p p
  | step {a b : Int} : Reach w p a → T w a b → Reach w p b
theorem Reach.rg {w : Web} (o : w.ok) {p q : Int} (hp : 0 ≤ p ∧ p < w.n) (h : Reach w p q) : 0 ≤ q ∧ q < w.n := by
  induction h with
  | refl => exact hp
  | step _ t _ => have := t.rg o; omega
theorem Reach.trans {w : Web} {p q r : Int} (h : Reach w p q) (h2 : Reach w q r) : Reach w p r := by
  induction h2 with
  | refl => exact h
  | step _ t ih => exact .step ih t
theorem Reach.symm {w : Web} {p q : Int} (h : Reach w p q) : Reach w q p := by
  induction h with
  | refl => exact .refl
  | step _ t ih => exact (Reach.step .refl t.symm).trans ih
open Classical in
noncomputable def pieceF (w : Web) (p : Int) : List Int := (irng 0 w.n).filter fun q => decide (Reach w p q)
theorem nodup_le {l m : List Int} (h : l.Nodup) (s : ∀ x ∈ l, x ∈ m) : l.length ≤ m.length := by
  induction l generalizing m with
  | nil => simp
  | cons x l ih =>
    have h' := List.nodup_cons.mp h
    have hx : x ∈ m := s x (by simp)
    have := ih (m := m.erase x) h'.2 fun y hy => by
      have hne : y ≠ x := fun e => h'.1 (by rw [← e]; exact hy)
      exact (List.mem_erase_of_ne hne).mpr (s y (by simp [hy]))
    rw [List.length_erase_of_mem hx] at this
    have : 0 < m.length := List.length_pos_of_mem hx
    simp; omega
def dT (l : List Int) : D := .tuple (l.map .int)
noncomputable def stepP (w : Web) (acc : List (List Int)) (p : Int) : List (List Int) := if pieceF w p ∈ acc then acc else acc ++ [pieceF w p]
noncomputable def piecesF (w : Web) : List (List Int) := (irng 0 w.n).foldl (stepP w) []
end Lib
end G7

namespace G7
namespace Lib
open PySem
/-- _law_dig(cell): slots 0 cell:r; modes ['rd']; answer nw -/
def wb_l_dig : WS :=
  (wRet (wList (waCons (wBlt max2D (waCons (wC (.int 0)) (waCons (wOp2 subD (wVar 0) (wOp2 powD (wC (.int 10)) (wC (.int 18)))) waNil))) (waCons (wOp2 modD (wVar 0) (wOp2 powD (wC (.int 10)) (wC (.int 18)))) (waCons (wC (.int 0)) waNil)))))
@[simp] theorem tupXD_l (ds : List D) : tupXD [.list ds] = some (xtD ds) := rfl
def S_l_dig : FS := fun ds Post => ∃ c : Int, ds = [.int c] ∧ ∀ x y z : Int, Post (.list [.int x, .int y, .int z])
theorem m_l_dig {rk : RK} : ∀ ds Post, S_l_dig ds Post → wb_l_dig { nx := fun _ => Post .none ∧ rk = .fz, rt := fun d _ => Post d } (startE 1 ds) := by
  rintro ds Post ⟨c, rfl, h⟩
  unfold wb_l_dig startE
  simp [-Bool.exists_bool, -List.map_map, powD, h]
def renP (ps : List Int) (t : Int × Int) : Int × Int := let a := ps.getD t.1.toNat 0; let b := ps.getD t.2.toNat 0; (if b < a then b else a, if b > a then b else a)
structure good (n : Int) (ts : List (Int × Int)) : Prop where
  nd : ts.Nodup
  rg : ∀ t ∈ ts, 0 ≤ t.1 ∧ t.1 < t.2 ∧ t.2 < n
theorem perm_get {ps : List Int} {n : Int} (hp : ps.Perm (irng 0 n)) {i : Int} (h0 : 0 ≤ i) (h1 : i < n) : ∃ hk : i.toNat < ps.length, ps.getD i.toNat 0 = ps[i.toNat] ∧ 0 ≤ ps[i.toNat] ∧ ps[i.toNat] < n := by
  have hl := hp.length_eq
  rw [ints_len] at hl
  have hk : i.toNat < ps.length := by omega
  refine ⟨hk, by rw [List.getD_eq_getElem?_getD, List.getElem?_eq_getElem hk]; rfl, ?_⟩
  have : ps[i.toNat] ∈ irng 0 n := hp.mem_iff.mp (List.getElem_mem hk)
  exact mem_ints.mp this
theorem perm_inj {ps : List Int} {n : Int} (hp : ps.Perm (irng 0 n)) {i j : Int} (h0 : 0 ≤ i) (h1 : i < n) (h2 : 0 ≤ j) (h3 : j < n) (e : ps.getD i.toNat 0 = ps.getD j.toNat 0) : i = j := by
  obtain ⟨hi, e1, _⟩ := perm_get hp h0 h1
  obtain ⟨hj, e2, _⟩ := perm_get hp h2 h3
  rw [e1, e2] at e
  have nd : ps.Nodup := hp.nodup_iff.mpr ((ints_sorted 0 n).imp fun h => by omega)
  have := (List.getElem_inj (h₀ := hi) (h₁ := hj) nd).mp e
  omega
theorem ren_ok {ps : List Int} {n : Int} (hp : ps.Perm (irng 0 n)) {t : Int × Int} (h : 0 ≤ t.1 ∧ t.1 < t.2 ∧ t.2 < n) : 0 ≤ (renP ps t).1 ∧ (renP ps t).1 < (renP ps t).2 ∧ (renP ps t).2 < n := by
  obtain ⟨_, e1, a1, a2⟩ := perm_get hp h.1 (by omega)
  obtain ⟨_, e2, b1, b2⟩ := perm_get hp (i := t.2) (by omega) h.2.2
  have ne : ps.getD t.1.toNat 0 ≠ ps.getD t.2.toNat 0 := fun e => by
    have := perm_inj hp h.1 (by omega) (by omega) h.2.2 e
    omega
  unfold renP
  rw [← e1] at a1 a2
  rw [← e2] at b1 b2
  simp only
  split <;> split <;> omega
theorem ren_inj {ps : List Int} {n : Int} (hp : ps.Perm (irng 0 n)) {t u : Int × Int} (h : 0 ≤ t.1 ∧ t.1 < t.2 ∧ t.2 < n) (h' : 0 ≤ u.1 ∧ u.1 < u.2 ∧ u.2 < n) (e : renP ps t = renP ps u) : t = u := by
  have i1 := fun z => perm_inj hp (i := t.1) (j := u.1) h.1 (by omega) h'.1 (by omega) z
  have i2 := fun z => perm_inj hp (i := t.2) (j := u.2) (by omega) h.2.2 (by omega) h'.2.2 z
  have i3 := fun z => perm_inj hp (i := t.1) (j := u.2) h.1 (by omega) (by omega) h'.2.2 z
  have i4 := fun z => perm_inj hp (i := t.2) (j := u.1) (by omega) h.2.2 h'.1 (by omega) z
  unfold renP at e
  simp only [Prod.mk.injEq] at e
  obtain ⟨e1, e2⟩ := e
  have key : (ps.getD t.1.toNat 0 = ps.getD u.1.toNat 0 ∧ ps.getD t.2.toNat 0 = ps.getD u.2.toNat 0) ∨ (ps.getD t.1.toNat 0 = ps.getD u.2.toNat 0 ∧ ps.getD t.2.toNat 0 = ps.getD u.1.toNat 0) := by
    split at e1 <;> split at e1 <;> split at e2 <;> split at e2 <;> omega
  rcases key with ⟨k1, k2⟩ | ⟨k1, k2⟩
  · exact Prod.ext (i1 k1) (i2 k2)
  · have := i3 k1; have := i4 k2; omega
theorem psort_strict {l : List (Int × Int)} (h : l.Nodup) : (psort l).Pairwise lexP := by
  have h1 := psort_sorted l
  have h2 : (psort l).Nodup := (psort_perm l).nodup_iff.mpr h
  have := List.Pairwise.and h1 (List.nodup_iff_pairwise_ne.mp h2)
  refine this.imp fun {a b} ⟨p, q⟩ => ?_
  unfold leP at p
  unfold lexP
  have : ¬ (a.1 = b.1 ∧ a.2 = b.2) := fun z => q (Prod.ext z.1 z.2)
  omega
theorem good.map {ps : List Int} {n : Int} (hp : ps.Perm (irng 0 n)) {ts : List (Int × Int)} (g : good n ts) : good n (ts.map (renP ps)) := by
  refine ⟨?_, fun t ht => ?_⟩
  · rw [List.nodup_iff_pairwise_ne, List.pairwise_map]
    exact (List.nodup_iff_pairwise_ne.mp g.nd).imp_of_mem fun ha hb h e => h (ren_inj hp (g.rg _ ha) (g.rg _ hb) e)
  · obtain ⟨u, hu, rfl⟩ := List.mem_map.mp ht
    exact ren_ok hp (g.rg u hu)
theorem good.web {n : Int} {ts : List (Int × Int)} (g : good n ts) (n1 : 1 ≤ n) (n9 : n ≤ 9) (hl : ts.length ≤ 20) : (Web.mk n (psort ts)).ok :=
  ⟨n1, n9, by rw [(psort_perm ts).length_eq]; exact hl, fun t ht => g.rg t ((psort_perm ts).mem_iff.mp ht), psort_strict g.nd⟩
end Lib
end G7

namespace G7
namespace Lib
open PySem
theorem dW_0 (w : Web) : ixD (dW w) (.int 0) = some (.int w.n) := rfl
theorem dW_1 (w : Web) : ixD (dW w) (.int 1) = some (TP w.ts) := rfl
abbrev Ar := List (Int × Int)
theorem min_by {α : Type} (f : α → Int) : ∀ {l : List α}, l ≠ [] → ∃ x ∈ l, ∀ y ∈ l, f x ≤ f y
  | [], h => absurd rfl h
  | [x], _ => ⟨x, by simp, by simp⟩
  | x :: y :: l, _ => by
    obtain ⟨z, hz, h⟩ := min_by f (l := y :: l) (by simp)
    by_cases c : f x ≤ f z
    · refine ⟨x, by simp, fun u hu => ?_⟩
      rcases List.mem_cons.mp hu with rfl | hu
      · omega
      · have := h u hu; omega
    · refine ⟨z, List.mem_cons_of_mem _ hz, fun u hu => ?_⟩
      rcases List.mem_cons.mp hu with rfl | hu
      · omega
      · exact h u hu
/-- a rank that rises along each arrow -/
def Acyc (ls : Ar) : Prop := ∃ h : Int → Int, ∀ t ∈ ls, h t.1 < h t.2
theorem Acyc.sub {ls ms : Ar} (h : Acyc ls) (s : ∀ t ∈ ms, t ∈ ls) : Acyc ms := by
  obtain ⟨f, h⟩ := h
  exact ⟨f, fun t ht => h t (s t ht)⟩
theorem Acyc.stuck {ls : Ar} (h : Acyc ls) {l : List Int} (ne : l ≠ []) : ∃ p ∈ l, ∀ a ∈ l, (a, p) ∉ ls := by
  obtain ⟨f, h⟩ := h
  obtain ⟨p, hp, hm⟩ := min_by f ne
  refine ⟨p, hp, fun a ha c => ?_⟩
  have := h _ c
  have := hm a ha
  simp only at *
  omega
/-- an order by which all arrows lead on -/
structure Topo (ls : Ar) (o : List Int) : Prop where
  nd : o.Nodup
  pr : ∀ xs p ys, o = xs ++ p :: ys → ∀ a, (a, p) ∈ ls → a ∈ xs
theorem Topo.nil {ls : Ar} : Topo ls [] := ⟨List.nodup_nil, fun xs p ys h => by simp at h⟩
theorem split_last {α : Type} {o xs ys : List α} {p q : α} (h : o ++ [q] = xs ++ p :: ys) : (ys = [] ∧ xs = o ∧ p = q) ∨ ∃ zs, ys = zs ++ [q] ∧ o = xs ++ p :: zs := by
  rcases List.eq_nil_or_concat ys with rfl | ⟨zs, z, rfl⟩
  · left
    have := List.append_inj' h (by simp)
    simp at this
    exact ⟨rfl, this.1.symm, this.2.symm⟩
  · right
    simp only [List.concat_eq_append] at h ⊢
    have h2 : o ++ [q] = (xs ++ p :: zs) ++ [z] := by rw [h]; simp
    have := List.append_inj' h2 (by simp)
    simp at this
    exact ⟨zs, by rw [this.2], this.1⟩
theorem Topo.snoc {ls : Ar} {o : List Int} {q : Int} (h : Topo ls o) (n : q ∉ o) (hp : ∀ a, (a, q) ∈ ls → a ∈ o) : Topo ls (o ++ [q]) := by
  refine ⟨?_, fun xs p ys e a ha => ?_⟩
  · rw [List.nodup_append]
    refine ⟨h.nd, by simp, fun a ha b hb => ?_⟩
    simp at hb; subst hb
    rintro rfl
    exact n ha
  · rcases split_last e with ⟨_, rfl, rfl⟩ | ⟨zs, _, e⟩
    · exact hp a ha
    · exact h.pr xs p zs e a ha
theorem idx_split {xs ys : List Int} {p : Int} (n : p ∉ xs) : (xs ++ p :: ys).idxOf p = xs.length := by
  rw [List.idxOf_append, if_neg n]; simp
theorem Topo.idx {ls : Ar} {o : List Int} (h : Topo ls o) {a p : Int} (hp : p ∈ o) (ha : (a, p) ∈ ls) : o.idxOf a < o.idxOf p := by
  obtain ⟨xs, ys, e⟩ := List.append_of_mem hp
  have hm := h.pr xs p ys e a ha
  have np : p ∉ xs := fun c => by
    have := h.nd
    rw [e, List.nodup_append] at this
    exact this.2.2 _ c _ (by simp) rfl
  rw [e, idx_split np, List.idxOf_append, if_pos hm]
  exact List.idxOf_lt_length_of_mem hm
theorem Topo.acyc {ls : Ar} {o : List Int} (h : Topo ls o) (hm : ∀ t ∈ ls, t.2 ∈ o) : Acyc ls :=
  ⟨fun p => (o.idxOf p : Int), fun t ht => by have := h.idx (hm t ht) ht; simp only; omega⟩
/-- heights: of the places P the most steps of ways to them -/
structure IsH (ls : Ar) (P : Int → Prop) (h : Int → Int) : Prop where
  nn : ∀ p, P p → 0 ≤ h p
  up : ∀ a p, (a, p) ∈ ls → P p → h a < h p
  at' : ∀ p, P p → h p = 0 ∨ ∃ a, (a, p) ∈ ls ∧ h a = h p - 1
theorem IsH.least {ls : Ar} {P : Int → Prop} {h g : Int → Int} (i : IsH ls P h) (hP : ∀ t ∈ ls, P t.1 ∧ P t.2) (g0 : ∀ p, P p → 0 ≤ g p) (gu : ∀ a p, (a, p) ∈ ls → g a < g p) {p : Int} (hp : P p) : h p ≤ g p := by
  have key : ∀ (n : Nat) (p : Int), P p → h p ≤ n → h p ≤ g p := by
    intro n
    induction n with
    | zero => intro p hp hn; have := g0 p hp; omega
    | succ n ih =>
      intro p hp hn
      rcases i.at' p hp with e | ⟨a, ha, e⟩
      · have := g0 p hp; omega
      · have := ih a (hP _ ha).1 (by omega)
        have := gu a p ha
        omega
  exact key (h p).toNat p hp (by omega)
theorem IsH.one {ls : Ar} {P : Int → Prop} {h g : Int → Int} (i : IsH ls P h) (j : IsH ls P g) (hP : ∀ t ∈ ls, P t.1 ∧ P t.2) {p : Int} (hp : P p) : h p = g p :=
  Int.le_antisymm (i.least hP j.nn (fun a p ha => j.up a p ha (hP _ ha).2) hp) (j.least hP i.nn (fun a p ha => i.up a p ha (hP _ ha).2) hp)
theorem IsH.acyc {ls : Ar} {P : Int → Prop} {h : Int → Int} (i : IsH ls P h) (hP : ∀ t ∈ ls, P t.1 ∧ P t.2) : Acyc ls := ⟨h, fun t ht => i.up t.1 t.2 ht (hP t ht).2⟩
/-- the greatest of nought and some -/
def max0 (l : List Int) : Int := l.foldl max 0
theorem maxAD_0 (l : List Int) : maxAD [.list ((0 :: l).map .int)] = some (.int (max0 l)) := by
  simp only [maxAD, intsD_map, Option.bind_some]; rfl
/-- where the ties lead -/
def arw (w : Web) (p : List Int) : Ar := List.zipWith (fun t x => if x = 1 then t else (t.2, t.1)) w.ts p
def isP (w : Web) (p : List Int) : Prop := p.length = w.ts.length ∧ ∀ x ∈ p, x = 0 ∨ x = 1
theorem arw_map (w : Web) (f : Int × Int → Int) : arw w (w.ts.map f) = w.ts.map fun t => if f t = 1 then t else (t.2, t.1) := by
  unfold arw
  induction w.ts with
  | nil => rfl
  | cons t ts ih => simp [ih]
theorem arw_len {w : Web} {p : List Int} (h : isP w p) : (arw w p).length = w.ts.length := by
  unfold arw; rw [List.length_zipWith, h.1, Nat.min_self]
theorem mem_zipWith {α β γ : Type} {f : α → β → γ} {t : γ} : ∀ {xs : List α} {ys : List β}, t ∈ List.zipWith f xs ys → ∃ a b, a ∈ xs ∧ b ∈ ys ∧ t = f a b
  | [], _, h => by simp at h
  | _ :: _, [], h => by simp at h
  | x :: xs, y :: ys, h => by
    rw [List.zipWith_cons_cons, List.mem_cons] at h
    rcases h with rfl | h
    · exact ⟨x, y, by simp, by simp, rfl⟩
    · obtain ⟨a, b, ha, hb, e⟩ := mem_zipWith h
      exact ⟨a, b, by simp [ha], by simp [hb], e⟩
theorem arw_mem {w : Web} {p : List Int} {t : Int × Int} (h : t ∈ arw w p) : t ∈ w.ts ∨ (t.2, t.1) ∈ w.ts := by
  obtain ⟨a, b, ha, _, rfl⟩ := mem_zipWith h
  by_cases e : b = 1
  · left; rw [if_pos e]; exact ha
  · right; rw [if_neg e]; exact ha
theorem arw_rg {w : Web} (o : w.ok) {p : List Int} : ∀ t ∈ arw w p, (0 ≤ t.1 ∧ t.1 < w.n) ∧ 0 ≤ t.2 ∧ t.2 < w.n := by
  intro t ht
  rcases arw_mem ht with h | h
  · have := o.rg _ h; omega
  · have := o.rg _ h; simp only at this; omega
/-- each tie leads one way or the other -/
theorem arw_tie {w : Web} {p : List Int} (h : isP w p) {t : Int × Int} (ht : t ∈ w.ts) : t ∈ arw w p ∨ (t.2, t.1) ∈ arw w p := by
  obtain ⟨i, hi, rfl⟩ := List.mem_iff_getElem.mp ht
  have hp : i < p.length := by rw [h.1]; exact hi
  have hl : i < (arw w p).length := by rw [arw_len h]; exact hi
  have e : (arw w p)[i] = if p[i] = 1 then w.ts[i] else (w.ts[i].2, w.ts[i].1) := by simp [arw]
  by_cases c : p[i] = 1
  · left; rw [if_pos c] at e; rw [← e]; exact List.getElem_mem _
  · right; rw [if_neg c] at e; rw [← e]; exact List.getElem_mem _
end Lib
end G7

namespace G7
namespace Lib
open PySem
def befF (ls : Ar) (q : Int) (l : List Int) : List Int := (ls.filter fun t => decide (t.2 = q) && decide (t.1 ∈ l)).map (·.1)
theorem mem_bef {ls : Ar} {q : Int} {l : List Int} {a : Int} : a ∈ befF ls q l ↔ (a, q) ∈ ls ∧ a ∈ l := by
  unfold befF
  simp only [List.mem_map, List.mem_filter, Bool.and_eq_true, decide_eq_true_eq]
  constructor
  · rintro ⟨⟨x, y⟩, ⟨h1, h2, h3⟩, rfl⟩
    simp only at h2; subst h2
    exact ⟨h1, h3⟩
  · rintro ⟨h1, h2⟩
    exact ⟨(a, q), ⟨h1, rfl, h2⟩, rfl⟩
/-- a round by arrows: each leads to the one behind it, the last one to the first -/
def nexts (r : List Int) : List (Int × Int) := r.zip (r.tail ++ r.take 1)
/-- the first order, place by place: o is what has been laid, l what is left -/
inductive Gr (ls : Ar) (l0 : List Int) : List Int → List Int → Prop
  | nil : Gr ls l0 [] l0
  | snoc {o l r : List Int} {p : Int} : Gr ls l0 o l → (l.filter fun q => decide (befF ls q l = [])) = p :: r → Gr ls l0 (o ++ [p]) (l.erase p)
theorem Gr.perm {ls : Ar} {l0 o l : List Int} (g : Gr ls l0 o l) : (o ++ l).Perm l0 := by
  induction g with
  | nil => exact .refl _
  | @snoc o l r p _ h ih =>
    have hp : p ∈ l := by
      have : p ∈ l.filter fun q => decide (befF ls q l = []) := by rw [h]; simp
      exact (List.mem_filter.mp this).1
    rw [List.append_assoc]
    exact ((List.perm_cons_erase hp).symm.append_left o).trans ih
theorem Gr.topo {ls : Ar} {l0 o l : List Int} (g : Gr ls l0 o l) (nd : l0.Nodup) (hr : ∀ t ∈ ls, t.1 ∈ l0) : Topo ls o := by
  induction g with
  | nil => exact .nil
  | @snoc o l r p g h ih =>
    have hm : p ∈ l.filter fun q => decide (befF ls q l = []) := by rw [h]; simp
    obtain ⟨hp, hb⟩ := List.mem_filter.mp hm
    have hb : befF ls p l = [] := by simpa using hb
    have nd2 : (o ++ l).Nodup := g.perm.nodup_iff.mpr nd
    rw [List.nodup_append] at nd2
    refine ih.snoc (fun c => nd2.2.2 p c p hp rfl) fun a ha => ?_
    have : a ∈ o ++ l := g.perm.mem_iff.mpr (hr _ ha)
    rcases List.mem_append.mp this with c | c
    · exact c
    · have : a ∈ befF ls p l := mem_bef.mpr ⟨ha, c⟩
      rw [hb] at this; simp at this
theorem Gr.one {ls : Ar} {l0 : List Int} : ∀ {o l o' l' : List Int}, Gr ls l0 o l → Gr ls l0 o' l' → o.length = o'.length → o = o' ∧ l = l' := by
  intro o l o' l' g
  induction g generalizing o' l' with
  | nil =>
    intro g' h
    cases g' with
    | nil => exact ⟨rfl, rfl⟩
    | snoc _ _ => simp at h
  | @snoc o l r p g h ih =>
    intro g' hl
    cases g' with
    | nil => simp at hl
    | @snoc o2 l2 r2 p2 g2 h2 =>
      obtain ⟨rfl, rfl⟩ := ih g2 (by simpa using hl)
      rw [h] at h2
      cases h2
      exact ⟨rfl, rfl⟩
open Classical in
noncomputable def acB (ls : Ar) : Bool := decide (Acyc ls)
theorem Gr.acyc {w : Web} {p o : List Int} (ok : w.ok) (g : Gr (arw w p) (irng 0 w.n) o []) : Acyc (arw w p) := by
  have hrg := arw_rg ok (p := p)
  have nd0 : (irng 0 w.n).Nodup := (ints_sorted _ _).imp fun h => by omega
  have ht := g.topo nd0 fun t ht => mem_ints.mpr (hrg t ht).1
  refine ht.acyc fun t ht => ?_
  have := g.perm.mem_iff.mpr (mem_ints.mpr (hrg t ht).2)
  simpa using this
end Lib
end G7

namespace G7
namespace Lib
open PySem
/-- the least number from 0 on that is not there -/
def leastF (l : List Int) : Int := ((irng 0 ((l.length : Int) + 1)).find? fun x => decide (x ∉ l)).getD 0
/-- what is found along an order -/
def hueM (w : Web) : List Int → List (Int × Int) → List (Int × Int)
  | [], m => m
  | p :: os, m => hueM w os (m ++ [(p, leastF (((nearF w p).filter fun q => (m.lookup q).isSome).map fun q => (m.lookup q).getD 0))])
/-- the final hue -/
def H (w : Web) (os : List Int) (p : Int) : Int := ((hueM w os []).lookup p).getD 0
def dI (m : List (Int × Int)) : D := .dict (m.map fun p => (.int p.1, .int p.2))
theorem look_dI (m : List (Int × Int)) (q : Int) : lookD (m.map fun p => (PyData.int p.1, PyData.int p.2)) (.inl q) = (m.lookup q).map .int := by
  induction m with
  | nil => rfl
  | cons t m ih =>
    obtain ⟨a, b⟩ := t
    unfold lookD at ih ⊢
    by_cases h : a = q
    · subst h; simp [List.lookup, keyB]
    · have h2 : (q == a) = false := by simpa using fun e => h e.symm
      have h3 : keyB (.inl q) (.int a) = false := by simp [keyB, h]
      simp only [List.map_cons, List.find?_cons, h3, List.lookup, h2]
      exact ih
theorem plain_dI (m : List (Int × Int)) : plainM (m.map fun p => (PyData.int p.1, PyData.int p.2)) = true := by cases m <;> rfl
theorem dget_dI {m : List (Int × Int)} {q v : Int} (h : m.lookup q = some v) : dgetD (dI m) (.int q) = some (.int v) := by
  unfold dI
  simp only [dgetD, plain_dI, if_true, keyOf, Option.bind_some, look_dI, h, Option.map_some]
theorem din_dI (m : List (Int × Int)) (q : Int) : dinD (.int q) (dI m) = some (.bool (m.lookup q).isSome) := by
  unfold dI
  simp only [dinD, plain_dI, if_true, keyOf, Option.map_some, look_dI, Option.isSome_map]
theorem dnin_dI (m : List (Int × Int)) (q : Int) : dninD (.int q) (dI m) = some (.bool (!(m.lookup q).isSome)) := by
  unfold dI
  simp only [dninD, plain_dI, if_true, keyOf, Option.map_some, look_dI, Option.isSome_map]
theorem max_ex {l : List Int} (h : l ≠ []) : ∃ M, maxAD [.tuple (l.map .int)] = some (.int M) ∧ M ∈ l ∧ ∀ y ∈ l, y ≤ M := by
  cases l with
  | nil => exact absurd rfl h
  | cons x t =>
    obtain ⟨h1, h2⟩ := foldl_max x t
    refine ⟨t.foldl max x, ?_, h1, h2⟩
    have := intsD_map (x :: t)
    simp only [maxAD, this, Option.bind_some, maxI, Option.map_some]
end Lib
end G7

namespace G7
namespace Lib
open PySem
abbrev Mp := List (Int × Int)
abbrev gM (m : Mp) (q : Int) : Int := (m.lookup q).getD 0
def mput (m : Mp) (q v : Int) : Mp := if (m.lookup q).isSome = true then m.map (fun p => if q = p.1 then (p.1, v) else p) else m ++ [(q, v)]
theorem any_dI (m : Mp) (q : Int) : ((m.map fun p => (PyData.int p.1, PyData.int p.2)).any fun p => keyB (.inl q) p.1) = (m.lookup q).isSome := by
  have h := look_dI m q
  unfold lookD at h
  have h2 := congrArg Option.isSome h
  rw [Option.isSome_map, Option.isSome_map] at h2
  rw [← h2, List.isSome_find?]
theorem putDD_dI (m : Mp) (q v : Int) : putDD (m.map fun p => (PyData.int p.1, PyData.int p.2)) (.inl q) (.int v) = (mput m q v).map fun p => (PyData.int p.1, PyData.int p.2) := by
  unfold putDD mput
  rw [any_dI]
  split
  · rw [List.map_map, List.map_map]
    refine List.map_congr_left fun p _ => ?_
    simp only [Function.comp, keyB]
    by_cases c : q = p.1
    · simp [c]
    · have : ¬ p.1 = q := fun z => c z.symm
      simp [c, this]
  · simp [kD]
section
variable {e : En} {i : Nat} {nx bk ct : En → Prop} {rt : D → En → Prop} {m : Mp} {q v : Int}
def dputK (i : Nat) (nx : En → Prop) (y j : D) (e : En) : Prop := ∃ k m, keyOf j = some k ∧ e[i]? = some (some (.dict m)) ∧ plainM m = true ∧ m.length < 1000000 ∧ nx (e.set i (some (.dict (putDD m k y))))
def dputK0 (i : Nat) (b : WE) (nx : En → Prop) (y : D) (e : En) : Prop := (∃ m, e[i]? = some (some (.dict m)) ∧ plainM m = true) ∧ b e fun j e2 => dputK i nx y j e2
theorem i_dput {v ix : WE} (k : v e fun y e1 => dputK0 i ix nx y e1) : wDput i v ix ⟨nx, rt, bk, ct⟩ e := k
theorem i_dput0 {ix : WE} {y : D} (h : e[i]? = some (some (dI m))) (k : ix e fun j e2 => dputK i nx y j e2) : dputK0 i ix nx y e := ⟨⟨_, h, plain_dI m⟩, k⟩
theorem i_dput1 (h : e[i]? = some (some (dI m))) (hl : m.length < 1000000) (k : nx (e.set i (some (dI (mput m q v))))) : dputK i nx (.int v) (.int q) e :=
  ⟨.inl q, _, rfl, h, plain_dI m, by rw [List.length_map]; exact hl, by rw [putDD_dI]; exact k⟩
end
def dTP (ks : List (Int × Int)) : D := dTD (ks.map fun p => (dP p, .bool true))
def sput (ks : List (Int × Int)) (p : Int × Int) : List (Int × Int) := if p ∈ ks then ks else ks ++ [p]
theorem mem_sput {ks : List (Int × Int)} {p q : Int × Int} : q ∈ sput ks p ↔ q = p ∨ q ∈ ks := by
  unfold sput
  split
  · rename_i h
    constructor
    · exact .inr
    · rintro (rfl | h')
      · exact h
      · exact h'
  · simp [or_comm]
theorem nodup_sput {ks : List (Int × Int)} {p : Int × Int} (h : ks.Nodup) : (sput ks p).Nodup := by
  unfold sput
  split
  · exact h
  · rename_i n
    rw [List.nodup_append]
    exact ⟨h, by simp, fun x hx y hy => by simp at hy; subst hy; rintro rfl; exact n hx⟩
theorem len_sput (ks : List (Int × Int)) (p : Int × Int) : (sput ks p).length ≤ ks.length + 1 := by
  unfold sput; split <;> simp
def kP (p : Int × Int) : List L2.Key := [.inl p.1, .inl p.2]
theorem keyT_dP (p : Int × Int) : keyT (dP p) = some (kP p) := rfl
theorem keyTR_dP (p : Int × Int) : keyTR (dP p) = some (kP p) := rfl
theorem tD_kP (p : Int × Int) : tD (kP p) = dP p := rfl
theorem kP_inj {p q : Int × Int} : kP p = kP q ↔ p = q := by
  constructor
  · intro h
    simp only [kP, List.cons.injEq, Sum.inl.injEq, and_true] at h
    exact Prod.ext h.1 h.2
  · rintro rfl; rfl
theorem keyTB_dP (p q : Int × Int) : keyTB (kP p) (dP q) = decide (q = p) := by
  unfold keyTB
  rw [keyT_dP]
  simp only [Option.some.injEq, kP_inj]
theorem any_dTP (ks : List (Int × Int)) (p : Int × Int) : ((ks.map fun p => (dP p, PyData.bool true)).any fun z => keyTB (kP p) z.1) = decide (p ∈ ks) := by
  rw [List.any_map, Bool.eq_iff_iff]
  simp only [List.any_eq_true, Function.comp, keyTB_dP, decide_eq_true_eq]
  constructor
  · rintro ⟨x, h, rfl⟩; exact h
  · exact fun h => ⟨p, h, rfl⟩
theorem putTD_dTP (ks : List (Int × Int)) (p : Int × Int) : putTD (ks.map fun p => (dP p, PyData.bool true)) (kP p) (.bool true) = (sput ks p).map fun p => (dP p, .bool true) := by
  unfold putTD sput
  rw [any_dTP]
  by_cases h : p ∈ ks
  · simp only [h, decide_true, if_true]
    rw [List.map_map]
    refine List.map_congr_left fun q _ => ?_
    simp only [Function.comp]
    split <;> rfl
  · simp [h, tD_kP]
theorem lookTD_dTP (ks : List (Int × Int)) (p : Int × Int) : (lookTD (ks.map fun p => (dP p, PyData.bool true)) (kP p)).isSome = decide (p ∈ ks) := by
  unfold lookTD
  rw [Option.isSome_map, List.isSome_find?, any_dTP]
theorem dinTD_p (ks : List (Int × Int)) (p : Int × Int) : dinTD (dP p) (dTP ks) = some (.bool (decide (p ∈ ks))) := by
  simp only [dinTD, dTP, dTD, keyTR_dP, Option.map_some, lookTD_dTP]
theorem dninTD_p (ks : List (Int × Int)) (p : Int × Int) : dninTD (dP p) (dTP ks) = some (.bool (!decide (p ∈ ks))) := by
  simp only [dninTD, dTP, dTD, keyTR_dP, Option.map_some, lookTD_dTP]
theorem lenTD_p (ks : List (Int × Int)) : lenTD [dTP ks] = some (.int ks.length) := by simp [lenTD, dTP]
theorem sortTD_p (ks : List (Int × Int)) : sortTD (dTP ks) = some (LP (psort ks)) := by
  show (pairsD ((ks.map fun p => (dP p, PyData.bool true)).map (·.1))).map _ = _
  rw [List.map_map, show ((fun x : D × D => x.1) ∘ fun p : Int × Int => (dP p, PyData.bool true)) = dP from rfl, pairsD_dP]
  rfl
theorem sortTLD_p (ks : List (Int × Int)) : sortTLD [dTP ks] = some (LP (psort ks)) := sortTD_p ks
section
variable {e : En} {i : Nat} {nx bk ct : En → Prop} {rt : D → En → Prop} {ks : List (Int × Int)} {p : Int × Int} {Q : D → En → Prop}
theorem i_keysT (h : e[i]? = some (some (dTP ks))) (k : Q (LP (psort ks)) e) : wKeysT i e Q := ⟨_, _, h, sortTD_p ks, k⟩
def dputTK (i : Nat) (nx : En → Prop) (y j : D) (e : En) : Prop := ∃ k m, keyTR j = some k ∧ e[i]? = some (some (dTD m)) ∧ m.length < 1000000 ∧ nx (e.set i (some (dTD (putTD m k y))))
def dputTK0 (i : Nat) (b : WE) (nx : En → Prop) (y : D) (e : En) : Prop := (∃ m, e[i]? = some (some (dTD m))) ∧ b e fun j e2 => dputTK i nx y j e2
theorem i_dputT {v ix : WE} (k : v e fun y e1 => dputTK0 i ix nx y e1) : wDputT i v ix ⟨nx, rt, bk, ct⟩ e := k
theorem i_dputT0 {ix : WE} {y : D} (h : e[i]? = some (some (dTP ks))) (k : ix e fun j e2 => dputTK i nx y j e2) : dputTK0 i ix nx y e := ⟨⟨_, h⟩, k⟩
theorem i_dputT1 (h : e[i]? = some (some (dTP ks))) (hl : ks.length < 1000000) (k : nx (e.set i (some (dTP (sput ks p))))) : dputTK i nx (.bool true) (dP p) e :=
  ⟨kP p, _, keyTR_dP p, h, by rw [List.length_map]; exact hl, by rw [putTD_dTP]; exact k⟩
end
end Lib
end G7

namespace G7
namespace Lib
open PySem
def hok (w : Web) (h : List Int) : Bool := w.ts.all fun t => !decide (gI h t.1 = gI h t.2)
theorem tyD_int {x : D} (h : (tyD x == "int") = true) : ∃ i, x = .int i := by
  cases x with
  | int i => exact ⟨i, rfl⟩
  | dict m => unfold tyD at h; split at h <;> first | (exact absurd h (by decide)) | (rename_i e; cases e)
  | _ => exact absurd h (by simp [tyD])
theorem maxAD_ex {l : List Int} (h : l ≠ []) : ∃ M, maxAD [LI l] = some (.int M) ∧ M ∈ l ∧ ∀ y ∈ l, y ≤ M := by
  obtain ⟨M, h1, h2⟩ := max_ex h
  exact ⟨M, by rw [← h1]; rfl, h2⟩
end Lib
end G7

namespace G7
open PySem

local macro_rules | `(tactic| walk_at "op") => `(tactic| first
  | with_reducible exact addD_i _ _ | with_reducible exact subD_i _ _ | with_reducible exact ltD_i _ _ | with_reducible exact leD_i _ _ | with_reducible exact gtD_i _ _ | with_reducible exact geD_i _ _
  | with_reducible exact eqD_i _ _ | with_reducible exact neD_i _ _ | with_reducible exact lenD_lm | with_reducible exact lenD_tm | with_reducible exact lenD_l _ | with_reducible exact lenD_t _ | with_reducible exact dP_0 _ | with_reducible exact dP_1 _
  | with_reducible exact ixD_t0 _ _ | with_reducible exact ixD_t1 _ _ _ | with_reducible exact ixD_t2 _ _ _ _ | with_reducible exact ixD_l0 _ _ | with_reducible exact ixD_l0m | with_reducible exact ixD_t0m | exact eqD_sT | exact eqD_sF | exact neD_sT | exact neD_sF | with_reducible exact ixD_l1 _ _ _
  | with_reducible exact Lib.dW_0 _ | with_reducible exact Lib.dW_1 _ | with_reducible exact tupD_l _ | with_reducible exact tupD_t _ | with_reducible exact lstD_l _ | with_reducible exact lstD_t _ | with_reducible exact max2D_i _ _ | with_reducible exact min2D_i _ _
  | with_reducible exact isTD_i | with_reducible exact revT_m | with_reducible exact slL_m1 | with_reducible exact tupRevD_m | ((with_reducible refine' indexD_li ?_); with_reducible assumption) | ((with_reducible refine' indexD_xi ?_); with_reducible assumption) | ((with_reducible refine' Lib.indexD_Xi ?_); with_reducible assumption) | with_reducible exact isTD_s _ _ | with_reducible exact powD_6 | with_reducible exact powD_16 | with_reducible exact powD_18 | with_reducible exact isTD_t _ _ | with_reducible exact isTD_l _ _ | with_reducible exact isTD_b _ _ | with_reducible exact isTD_n _ | with_reducible exact isD_bb _ _ | with_reducible exact isNotD_bb _ _ | with_reducible exact isD_n' () | with_reducible exact isD_lN _ | with_reducible exact isD_tN _ | with_reducible exact isNotD_lN _ | with_reducible exact isNotD_tN _ | with_reducible exact intD_b _ | with_reducible exact intD_i _ | with_reducible exact negD_i _ | with_reducible exact eqD_b _ _ | with_reducible exact neD_b _ _
  | with_reducible exact neD_l0 _ | with_reducible exact eqD_l0 _ | with_reducible exact eqD_li _ _ | with_reducible exact neD_li _ _ | with_reducible exact eqD_ti _ _ | with_reducible exact neD_ti _ _
  | with_reducible exact eqD_lp _ _ | with_reducible exact neD_lp _ _ | with_reducible exact eqD_tp _ _ | with_reducible exact neD_tp _ _
  | with_reducible exact inD_li _ _ | with_reducible exact inD_ti _ _ | with_reducible exact notInD_li _ _ | with_reducible exact notInD_ti _ _ | with_reducible exact inD_lp _ _ | with_reducible exact inD_tp _ _
  | with_reducible exact notInD_lp _ _ | with_reducible exact notInD_tp _ _ | with_reducible exact inD_lp' _ _ _ | with_reducible exact inD_tp' _ _ _ | with_reducible exact notInD_lp' _ _ _ | with_reducible exact notInD_tp' _ _ _
  | with_reducible exact inD_pair _ _ _ | with_reducible exact sortedAD_i _ | with_reducible exact sortedAD_p _ | with_reducible exact allD_b _ | with_reducible exact anyD_b _
  | ((with_reducible refine' addD_1m ?_); omega) | with_reducible exact Lib.maxAD_0 _ | with_reducible exact Lib.din_dI _ _ | with_reducible exact Lib.dinTD_p _ _ | with_reducible exact Lib.dninTD_p _ _ | with_reducible exact Lib.lenTD_p _ | with_reducible exact Lib.sortTLD_p _ | with_reducible exact Lib.dnin_dI _ _ | ((with_reducible apply Lib.dget_dI); with_reducible assumption) | ((with_reducible refine' repLD_0 ?_ ?_) <;> omega) | ((with_reducible refine' slT_tom ?_); omega) | ((with_reducible refine' slT_frm ?_); omega) | ((with_reducible refine' slL_tom ?_); omega) | ((with_reducible refine' slL_frm ?_); omega) | ((with_reducible refine' modD_i ?_); omega) | ((with_reducible refine' fdivD_i ?_ ?_) <;> omega) | ((with_reducible refine' mulID_i (okMul_l ?_ ?_)) <;> omega) | ((with_reducible refine' mulID_i (okMul_r ?_ ?_)) <;> omega)
  | ((with_reducible refine' ixD_lm ?_ ?_) <;> omega) | ((with_reducible refine' ixD_tm ?_ ?_) <;> omega) | with_reducible assumption)
local macro_rules | `(tactic| walk_at "env") => `(tactic| simp only [List.set_cons_zero, List.set_cons_succ, upd, wp_cons, wp_nil, back_cons, back_nil, List.getElem?_cons_zero, List.getElem?_cons_succ, Option.getD_some, toF])
local macro_rules | `(tactic| walk_at "cond") => `(tactic| first | assumption | omega | exact rfl | (focus (simp; done)))
local macro_rules | `(tactic| walk_at "mut") => `(tactic| first | ((with_reducible refine' popAtF_m ?_ ?_) <;> omega) | ((with_reducible refine' appendF_m ?_); first | omega | (simp only [List.length_append, List.length_map, List.length_cons, List.length_nil]; omega)) | ((with_reducible refine' removeF_i ?_); (first | assumption | (simp; done))) | ((with_reducible refine' extendF_m ?_); first | omega | (simp only [List.length_append, List.length_map, List.length_cons, List.length_nil]; omega)))
local macro_rules | `(tactic| walk_at "s") => `(tactic| first
  | with_reducible refine' i_seq ?_ | ((with_reducible apply i_frz); (exact rfl); (first | exact nt_l | exact nt_d)) | ((with_reducible apply i_asV); (exact rfl)) | ((with_reducible apply i_asO); (exact rfl); (first | exact nt_l | exact nt_d)) | with_reducible refine' i_op2 ?_ | with_reducible refine' i_acons ?_ | with_reducible refine' i_anil ?_ | ((with_reducible apply i_var); exact rfl) | with_reducible refine' i_c ?_
  | with_reducible refine' i_asg ?_ | with_reducible refine' i_par ?_ | with_reducible refine' i_par2 ?_ | with_reducible refine' i_call ?_ | with_reducible refine' i_blt ?_ | with_reducible refine' i_op1 ?_ | with_reducible refine' i_tup ?_ | with_reducible refine' i_list ?_
  | ((with_reducible apply i_ex); walk_at "op") | ((with_reducible apply i_exk); walk_at "op")
  | with_reducible refine' i_val ?_ | with_reducible refine' i_exb ?_ | with_reducible refine' i_if ?_ | with_reducible refine' i_ret ?_ | with_reducible refine' i_nil ?_
  | with_reducible refine' i_T ?_ | with_reducible refine' i_F ?_ | with_reducible refine' i_tand ?_ | with_reducible refine' i_tor ?_ | with_reducible refine' i_tnot ?_ | with_reducible refine' i_yes ?_
  | with_reducible refine' i_and ?_ | with_reducible refine' i_or ?_ | with_reducible refine' i_not ?_ | with_reducible refine' i_ife ?_ | with_reducible refine' i_chain ?_
  | with_reducible refine' i_comp ?_ | with_reducible refine' i_iseq ?_ | with_reducible refine' i_irg1 ?_ | with_reducible refine' i_irg2 ?_ | with_reducible refine' i_izip ?_ | with_reducible refine' i_lstZ ?_ | with_reducible refine' i_lzT ?_ | with_reducible refine' i_lzL ?_ | with_reducible refine' i_disp1 ?_ | with_reducible refine' i_keyI ?_ | with_reducible refine' i_zipT ?_ | with_reducible refine' i_zipL ?_ | with_reducible refine' i_ienum ?_ | ((with_reducible apply i_enum); exact rfl) | with_reducible refine' i_irev ?_
  | with_reducible refine' i_for ?_ | with_reducible refine' i_lstrg ?_ | with_reducible refine' i_asgG ?_ | with_reducible refine' i_asgP ?_ | with_reducible refine' i_expr ?_ | with_reducible refine' i_retN ?_ | with_reducible refine' i_brk ?_ | with_reducible refine' i_cnt ?_
  | with_reducible refine' i_on ?_ | with_reducible refine' i_os ?_ | with_reducible refine' i_sl ?_ | ((with_reducible apply i_exl); exact rfl)
  | ((with_reducible refine' i_rg1 ?_ ?_); (constructor <;> omega)) | ((with_reducible refine' i_rg2 ?_ ?_); (refine ⟨?_, ?_, ?_, ?_⟩ <;> omega))
  | with_reducible refine' i_exi ?_
  | (with_reducible refine' i_len (Nat.le_of_ble_eq_true rfl) ?_)
  | ((with_reducible apply i_g); exact rfl) | ((with_reducible refine' i_plix ?_ ?_); exact rfl) | with_reducible refine' i_plset ?_ | with_reducible refine' i_np ?_
  | with_reducible refine' Lib.i_xt ?_ | with_reducible refine' Lib.i_idxX ?_ | with_reducible refine' i_idxL ?_ | with_reducible refine' i_idl ?_ | with_reducible refine' i_idx ?_
  | ((with_reducible apply i_mut1); (exact rfl); walk_at "mut")
  | ((with_reducible apply Lib.i_keysT); exact rfl) | (with_reducible refine' Lib.i_dputT ?_) | ((with_reducible apply Lib.i_dputT0); exact rfl) | ((with_reducible apply Lib.i_dputT1); (exact rfl); omega)
  | (with_reducible refine' Lib.i_dput ?_) | ((with_reducible apply Lib.i_dput0); exact rfl) | ((with_reducible apply Lib.i_dput1); (exact rfl); omega)
  | ((with_reducible refine' i_dT ?_ ?_); walk_at "cond") | ((with_reducible refine' i_dF ?_ ?_); walk_at "cond") | ((with_reducible refine' i_ndT ?_ ?_); walk_at "cond") | ((with_reducible refine' i_ndF ?_ ?_); walk_at "cond")
  | ((with_reducible refine' i_bT ?_ ?_); (first | with_reducible assumption | exact rfl)) | ((with_reducible refine' i_bF ?_ ?_); (first | with_reducible assumption | exact rfl))
  | ((with_reducible apply i_setixm); (exact rfl); omega; omega) | (with_reducible refine' i_setix ?_) | ((with_reducible apply i_setix0); exact rfl) | ((with_reducible apply i_mut); exact rfl))
local macro_rules | `(tactic| walk_at "run") => `(tactic| (repeat (walk_at "s")); try walk_at "env")
local macro_rules | `(tactic| walk_at "start") => `(tactic| simp only [startE, List.map_cons, List.map_nil, List.length_cons, List.length_nil, Nat.reduceAdd, Nat.reduceSub, Nat.zero_add, List.replicate_succ, List.replicate_zero, List.cons_append, List.nil_append])
local macro_rules | `(tactic| walk_at "len") => `(tactic| first | omega | (simp only [List.length_map, List.length_append, List.length_cons, List.length_nil]; omega) | (refine Nat.le_trans ?_ (Nat.le_refl _); have := List.length_filter_le; simp_all; done))
local macro_rules | `(tactic| walk_at "opl") => `(tactic| first | ((with_reducible refine' addD_lm ?_); walk_at "len") | ((with_reducible refine' addD_tm ?_); walk_at "len") | ((with_reducible refine' addLD_lm ?_); walk_at "len"))
/-- a comprehension: of what is walked itself, of ints, pairs, truths -/
local macro_rules | `(tactic| walk_at "comp") => `(tactic| first
  | (refine comp_fil ?_ (fun x hx => ?_) ?_; rotate_left 1; focus ((try have hx1 := Fact.use (by assumption) hx); (try have hx2 := mem_ints.mp hx); (try dsimp only at hx1); refine ⟨_, rfl, fun R hR => ?_, fun hp R hR => ?_, rfl⟩ <;> (repeat (walk_at "s")) <;> exact hR))
  | (refine comp_all (en2 := PySem.PyData.int) ?_ (fun x hx => ?_) ?_; rotate_left 1; focus ((try have hx1 := Fact.use (by assumption) hx); (try have hx2 := mem_ints.mp hx); (try dsimp only at hx1); refine ⟨_, rfl, fun R hR => ?_, rfl⟩ <;> (repeat (walk_at "s")) <;> exact hR))
  | (refine comp_all (en2 := PySem.PyData.bool) ?_ (fun x hx => ?_) ?_; rotate_left 1; focus ((try have hx1 := Fact.use (by assumption) hx); (try have hx2 := mem_ints.mp hx); (try dsimp only at hx1); refine ⟨_, rfl, fun R hR => ?_, rfl⟩ <;> (repeat (walk_at "s")) <;> exact hR))
  | (refine comp_all (en2 := dP) ?_ (fun x hx => ?_) ?_; rotate_left 1; focus ((try have hx1 := Fact.use (by assumption) hx); (try have hx2 := mem_ints.mp hx); (try dsimp only at hx1); refine ⟨_, rfl, fun R hR => ?_, rfl⟩ <;> (repeat (walk_at "s")) <;> exact hR))
  | (refine comp_el (en2 := PySem.PyData.int) ?_ ?_ (fun x hx => ?_) ?_; rotate_left 2; focus ((try have hx1 := Fact.use (by assumption) hx); (try have hx2 := mem_ints.mp hx); (try dsimp only at hx1); refine ⟨_, rfl, fun R hR => ?_, fun hp R hR => ?_, rfl⟩ <;> (repeat (walk_at "s")) <;> exact hR))
  | (refine comp_el (en2 := dP) ?_ ?_ (fun x hx => ?_) ?_; rotate_left 2; focus ((try have hx1 := Fact.use (by assumption) hx); (try have hx2 := mem_ints.mp hx); (try dsimp only at hx1); refine ⟨_, rfl, fun R hR => ?_, fun hp R hR => ?_, rfl⟩ <;> (repeat (walk_at "s")) <;> exact hR))
  | (refine comp_el (en2 := PySem.PyData.bool) ?_ ?_ (fun x hx => ?_) ?_; rotate_left 2; focus ((try have hx1 := Fact.use (by assumption) hx); (try have hx2 := mem_ints.mp hx); (try dsimp only at hx1); refine ⟨_, rfl, fun R hR => ?_, fun hp R hR => ?_, rfl⟩ <;> (repeat (walk_at "s")) <;> exact hR))
  | (refine comp_allD (en2 := PySem.PyData.int) ?_ (fun x hx => ?_) ?_; rotate_left 1; focus ((try have hx1 := Fact.use (by assumption) hx); (try dsimp only at hx1); refine ⟨_, rfl, fun R hR => ?_, rfl⟩ <;> (repeat (walk_at "s")) <;> exact hR))
  | (refine comp_allD (en2 := PySem.PyData.bool) ?_ (fun x hx => ?_) ?_; rotate_left 1; focus ((try have hx1 := Fact.use (by assumption) hx); (try dsimp only at hx1); refine ⟨_, rfl, fun R hR => ?_, rfl⟩ <;> (repeat (walk_at "s")) <;> exact hR)))
local macro_rules | `(tactic| walk_at "runc") => `(tactic| (repeat (first | walk_at "s" | walk_at "comp")); try walk_at "env")
/-- as run, but stops ahead of an if -/
local macro_rules | `(tactic| walk_at "runI") => `(tactic| (repeat ((fail_if_success (with_reducible refine' i_if ?_)); walk_at "s")); try walk_at "env")
namespace Lib
open PySem
/-- _law_pair: slots 0 a:r, 1 b:r; modes ['rd', 'rd']; answer fz -/
def wb_l_pair : WS :=
  (wRet (wTup (waCons (wBlt min2D (waCons (wVar 0) (waCons (wVar 1) waNil))) (waCons (wBlt max2D (waCons (wVar 0) (waCons (wVar 1) waNil))) waNil))))
def pr (a b : Int) : Int × Int := (if b < a then b else a, if b > a then b else a)
def S_l_pair : FS := fun ds Post => ∃ a b : Int, ds = [.int a, .int b] ∧ Post (dP (pr a b))
theorem m_l_pair {rk : RK} : ∀ ds Post, S_l_pair ds Post → wb_l_pair { nx := fun _ => Post .none ∧ rk = .fz, rt := fun d _ => Post d } (startE 2 ds) := by
  rintro ds Post ⟨a, b, rfl, h⟩
  unfold wb_l_pair
  walk_at "start"
  walk_at "run"
  exact h
theorem pr_rg {a b n : Int} (ha : 0 ≤ a ∧ a < n) (hb : 0 ≤ b ∧ b < n) (ne : a ≠ b) : 0 ≤ (pr a b).1 ∧ (pr a b).1 < (pr a b).2 ∧ (pr a b).2 < n := by
  unfold pr; simp only; split <;> split <;> omega
/-- all in one piece -/
def whole (w : Web) : Prop := ∀ p q, 0 ≤ p → p < w.n → 0 ≤ q → q < w.n → Reach w p q
theorem Reach.more {n : Int} {ks ms : List (Int × Int)} (s : ∀ t ∈ ks, t ∈ ms) {p q : Int} (h : Reach ⟨n, ks⟩ p q) : Reach ⟨n, ms⟩ p q := by
  induction h with
  | refl => exact .refl
  | step _ t ih => exact ih.step (t.imp (s _) (s _))
theorem good.put {n : Int} {ks : List (Int × Int)} {t : Int × Int} (g : good n ks) (h : 0 ≤ t.1 ∧ t.1 < t.2 ∧ t.2 < n) : good n (sput ks t) :=
  ⟨nodup_sput g.nd, fun u hu => by rcases mem_sput.mp hu with rfl | hu; exact h; exact g.rg u hu⟩
theorem perm_ne {os : List Int} {n : Int} (hos : os.Perm (irng 0 n)) {i j : Int} (h0 : 0 ≤ i) (h1 : i < n) (h2 : 0 ≤ j) (h3 : j < n) (ne : i ≠ j) : gI os i ≠ gI os j := by
  have hl := hos.length_eq
  rw [ints_len] at hl
  have nd : os.Nodup := hos.nodup_iff.mpr ((ints_sorted _ _).imp fun h => by omega)
  unfold gI
  rw [getElem!_pos os i.toNat (by omega), getElem!_pos os j.toNat (by omega)]
  intro e
  rcases Int.lt_or_gt_of_ne ne with c | c
  · exact List.pairwise_iff_getElem.mp nd i.toNat j.toNat (by omega) (by omega) (by omega) e
  · exact List.pairwise_iff_getElem.mp nd j.toNat i.toNat (by omega) (by omega) (by omega) e.symm
end Lib
end G7
namespace G7
namespace Lib
open PySem
inductive Way (ls : Ar) (a : Int) : Int → Prop
  | nil : Way ls a a
  | snoc {b c : Int} : Way ls a b → (b, c) ∈ ls → Way ls a c
theorem Way.trans {ls : Ar} {a b c : Int} (h : Way ls a b) (g : Way ls b c) : Way ls a c := by
  induction g with
  | nil => exact h
  | snoc _ e ih => exact .snoc ih e
theorem Way.more {ls ms : Ar} (s : ∀ t ∈ ls, t ∈ ms) {a b : Int} (h : Way ls a b) : Way ms a b := by
  induction h with
  | nil => exact .nil
  | snoc _ e ih => exact .snoc ih (s _ e)
theorem Way.one {ls : Ar} {a b : Int} (h : (a, b) ∈ ls) : Way ls a b := .snoc .nil h
theorem Way.up {ls : Ar} {h : Int → Int} (hh : ∀ t ∈ ls, h t.1 < h t.2) {a b : Int} (g : Way ls a b) : a = b ∨ h a < h b := by
  induction g with
  | nil => exact .inl rfl
  | snoc _ e ih =>
    have := hh _ e
    rcases ih with rfl | ih
    · exact .inr this
    · exact .inr (Int.lt_trans ih this)
theorem Acyc.noway {ls : Ar} (h : Acyc ls) {a b : Int} (e : (b, a) ∈ ls) : ¬ Way ls a b := by
  obtain ⟨r, hr⟩ := h
  intro g
  have := hr _ e
  rcases g.up hr with rfl | h2
  · simp at this
  · simp only at this; omega
theorem Acyc.add {ls : Ar} (h : Acyc ls) {u v : Int} (n : ¬ Way ls u v) : Acyc ((v, u) :: ls) := by
  obtain ⟨r, hr⟩ := h
  refine ⟨fun x => r x + (open Classical in if Way ls u x then (if r u < r v then r v - r u + 1 else 1) else 0), fun t ht => ?_⟩
  rcases List.mem_cons.mp ht with rfl | ht
  · simp only [n, if_false, if_pos Way.nil]
    split <;> omega
  · have h1 := hr t ht
    have h2 : Way ls u t.1 → Way ls u t.2 := fun g => .snoc g ht
    simp only
    by_cases e : Way ls u t.1
    · rw [if_pos e, if_pos (h2 e)]
      split <;> omega
    · rw [if_neg e]
      split
      · split <;> omega
      · omega
theorem bnd (h : Int → Int) (ls : Ar) : ∃ K : Int, ∀ t ∈ ls, h t.1 < K ∧ h t.2 < K ∧ -K < h t.1 ∧ -K < h t.2 := by
  induction ls with
  | nil => exact ⟨0, fun t ht => by simp at ht⟩
  | cons t ls ih =>
    obtain ⟨K, hK⟩ := ih
    refine ⟨K.natAbs + (h t.1).natAbs + (h t.2).natAbs + 1, fun s hs => ?_⟩
    rcases List.mem_cons.mp hs with rfl | hs
    · omega
    · have := hK s hs
      omega
def arr (w : Web) (p : List Int) (k : Nat) : Int × Int := if p[k]! = 1 then w.ts[k]! else (w.ts[k]!.2, w.ts[k]!.1)
theorem arw_get {w : Web} {p : List Int} (h : isP w p) {k : Nat} (hk : k < p.length) : (arw w p)[k]? = some (arr w p k) := by
  have h2 := h.1
  have : k < (arw w p).length := by rw [arw_len h]; omega
  rw [List.getElem?_eq_getElem this]
  unfold arr
  rw [getElem!_pos p k hk, getElem!_pos w.ts k (by omega)]
  simp [arw]
theorem mem_arw {w : Web} {p : List Int} (h : isP w p) {t : Int × Int} : t ∈ arw w p ↔ ∃ k, k < p.length ∧ t = arr w p k := by
  rw [List.mem_iff_getElem?]
  constructor
  · rintro ⟨k, hk⟩
    have : k < (arw w p).length := by
      rcases Nat.lt_or_ge k (arw w p).length with c | c
      · exact c
      · rw [List.getElem?_eq_none c] at hk; simp at hk
    rw [arw_len h, ← h.1] at this
    rw [arw_get h this] at hk
    exact ⟨k, this, (Option.some.inj hk).symm⟩
  · rintro ⟨k, hk, rfl⟩
    exact ⟨k, arw_get h hk⟩
theorem ok_nd {w : Web} (o : w.ok) : w.ts.Nodup := o.srt.imp fun h c => by subst c; unfold lexP at h; omega
/-- the arrows but one -/
def but (w : Web) (p : List Int) (k : Nat) : Ar := (arw w p).filter fun t => decide (t ≠ arr w p k)
end Lib
end G7

namespace G7
namespace Lib
open PySem
def tch (q : Int) (t : Int × Int) : Bool := decide (q = t.1 ∨ q = t.2)
def abtF (w : Web) (p : List Int) (q : Int) : List Int := List.zipWith (fun t x => if tch q t = true then 1 - x else x) w.ts p
theorem abt_len {w : Web} {p : List Int} {q : Int} (h : isP w p) : (abtF w p q).length = w.ts.length := by
  unfold abtF; rw [List.length_zipWith, h.1, Nat.min_self]
theorem bitsum {x : Int} (h : x = 0 ∨ x = 1) : 1 - x = 0 ∨ 1 - x = 1 := by omega
theorem abt_isP {w : Web} {p : List Int} {q : Int} (h : isP w p) : isP w (abtF w p q) := by
  refine ⟨abt_len h, fun x hx => ?_⟩
  obtain ⟨t, y, ht, hy, rfl⟩ := mem_zipWith hx
  have := h.2 y hy
  split
  · exact bitsum this
  · exact this
theorem abt_get {w : Web} {p : List Int} {q : Int} (h : isP w p) {k : Nat} (hk : k < p.length) : (abtF w p q)[k]! = if tch q w.ts[k]! = true then 1 - p[k]! else p[k]! := by
  have h1 := h.1
  rw [getElem!_pos (abtF w p q) k (by rw [abt_len h]; omega), getElem!_pos p k hk, getElem!_pos w.ts k (by omega)]
  simp [abtF]
theorem abt_arr {w : Web} {p : List Int} {q : Int} (h : isP w p) {k : Nat} (hk : k < p.length) : arr w (abtF w p q) k = if tch q (arr w p k) = true then ((arr w p k).2, (arr w p k).1) else arr w p k := by
  have hb : p[k]! = 0 ∨ p[k]! = 1 := by rw [getElem!_pos p k hk]; exact h.2 _ (List.getElem_mem hk)
  unfold arr
  rw [abt_get h hk]
  unfold tch
  rcases hb with e | e <;> rw [e] <;> simp <;> split <;> simp_all <;> grind
theorem abt_mem {w : Web} {p : List Int} {q : Int} (h : isP w p) {t : Int × Int} (ht : t ∈ arw w (abtF w p q)) : (tch q t = false ∧ t ∈ arw w p) ∨ (tch q t = true ∧ (t.2, t.1) ∈ arw w p) := by
  obtain ⟨k, hk, rfl⟩ := (mem_arw (abt_isP h)).mp ht
  rw [abt_len h, ← h.1] at hk
  rw [abt_arr h hk]
  have hm : arr w p k ∈ arw w p := (mem_arw h).mpr ⟨k, hk, rfl⟩
  split
  · next e =>
    right
    refine ⟨?_, hm⟩
    unfold tch at e ⊢
    simp only [decide_eq_true_eq] at e ⊢
    exact e.symm
  · next e => left; exact ⟨by simpa using e, hm⟩
/-- turning a source about keeps a fall a fall -/
theorem abt_source {w : Web} (o : w.ok) {p : List Int} {q : Int} (h : isP w p) (a : Acyc (arw w p)) (hs : q ∉ (arw w p).map Prod.snd) : Acyc (arw w (abtF w p q)) := by
  obtain ⟨r, hr⟩ := a
  obtain ⟨K, hK⟩ := bnd r (arw w p)
  refine ⟨fun x => if x = q then K else r x, fun t ht => ?_⟩
  have hq : ∀ t ∈ arw w p, t.2 ≠ q := fun t ht c => hs (List.mem_map.mpr ⟨t, ht, c⟩)
  rcases abt_mem h ht with ⟨e, hm⟩ | ⟨e, hm⟩
  · unfold tch at e
    simp only [decide_eq_false_iff_not, not_or] at e
    simp only
    rw [if_neg fun c => e.1 c.symm, if_neg fun c => e.2 c.symm]
    exact hr t hm
  · unfold tch at e
    simp only [decide_eq_true_eq] at e
    have h1 := hq _ hm
    have h2 := hK _ hm
    simp only at h1 h2
    rcases e with e | e
    · exact absurd e.symm h1
    · simp only
      rw [if_neg h1, if_pos e.symm]
      omega
theorem Acyc.end {ls : Ar} (h : Acyc ls) {l : List Int} (ne : l ≠ []) : ∃ p ∈ l, ∀ a ∈ l, (p, a) ∉ ls := by
  obtain ⟨r, hr⟩ := h
  obtain ⟨p, hp, hm⟩ := min_by (fun x => - r x) ne
  refine ⟨p, hp, fun a ha c => ?_⟩
  have := hr _ c
  have := hm a ha
  simp only at *
  omega
end Lib
end G7

namespace G7
namespace Lib
open PySem
theorem gI_set {l : List Int} {k j y : Int} (k0 : 0 ≤ k) (j0 : 0 ≤ j) (j1 : j < l.length) : gI (l.set k.toNat y) j = if j = k then y else gI l j := by
  unfold gI
  rw [getElem!_pos (l.set k.toNat y) j.toNat (by rw [List.length_set]; omega), List.getElem_set]
  by_cases e : j = k
  · subst e; simp
  · rw [if_neg (by omega), if_neg e, getElem!_pos l j.toNat (by omega)]
end Lib
end G7

namespace G7
namespace Lib
open PySem
def sprF (w : Web) (p : List Int) : List Int := (irng 0 w.n).filter fun q => !decide (q ∈ (arw w p).map Prod.snd)
end Lib
end G7

namespace G7
namespace Lib
open PySem
abbrev WSt := List (Int × List Int) × List Int
def visit (c : Int) (st : WSt) (be : Int × Int) : WSt := if be.1 = c ∧ st.1.lookup be.2 = none then (st.1 ++ [(be.2, ((st.1.lookup be.1).getD []) ++ [be.2])], st.2 ++ [be.2]) else st
def visit2 (c : Int) (st : WSt) (t : Int × Int) : WSt := visit c (visit c st t) (t.2, t.1)
def passW (laid : List (Int × Int)) (c : Int) (st : WSt) : WSt := laid.foldl (visit2 c) st
def goW (laid : List (Int × Int)) : Nat → Nat → WSt → WSt
  | 0, _, st => st
  | m + 1, i, st => if i < st.2.length then goW laid m (i + 1) (passW laid st.2[i]! st) else st
def startW (s : Int) : WSt := ([(s, [s])], [s])
def wayF (laid : List (Int × Int)) (s g : Int) : Option (List Int) := (goW laid 100 0 (startW s)).1.lookup g
/-- a way from s -/
inductive Pt (laid : List (Int × Int)) (s : Int) : Int → List Int → Prop
  | nil : Pt laid s s [s]
  | snoc {u v : Int} {l : List Int} : Pt laid s u l → ((u, v) ∈ laid ∨ (v, u) ∈ laid) → v ∉ l → Pt laid s v (l ++ [v])
theorem lookup_mem {α : Type} {m : List (Int × α)} {k : Int} {v : α} (h : m.lookup k = some v) : (k, v) ∈ m := by
  induction m with
  | nil => simp at h
  | cons t m ih =>
    obtain ⟨a, b⟩ := t
    rw [List.lookup_cons] at h
    split at h
    · rename_i e
      have : k = a := by simpa using e
      subst this; cases h; exact List.mem_cons_self
    · exact List.mem_cons_of_mem _ (ih h)
theorem lookup_none {α : Type} {m : List (Int × α)} {k : Int} : m.lookup k = none ↔ k ∉ m.map Prod.fst := by
  induction m with
  | nil => simp
  | cons t m ih =>
    obtain ⟨a, b⟩ := t
    rw [List.lookup_cons]
    by_cases e : k = a
    · subst e; simp
    · have : (k == a) = false := by simpa using e
      rw [this]
      simp only [List.map_cons, List.mem_cons, e, false_or]
      exact ih
structure WI (laid : List (Int × Int)) (s n : Int) (st : WSt) : Prop where
  ks : st.1.map Prod.fst = st.2
  nd : st.2.Nodup
  rg : ∀ x ∈ st.2, 0 ≤ x ∧ x < n
  hd : s ∈ st.2
  pt : ∀ v wy, (v, wy) ∈ st.1 → Pt laid s v wy ∧ ∀ x ∈ wy, x ∈ st.2
  re : ∀ x ∈ st.2, Reach ⟨n, laid⟩ s x
theorem WI.start {laid : List (Int × Int)} {s n : Int} (h : 0 ≤ s ∧ s < n) : WI laid s n (startW s) := by
  refine ⟨rfl, by simp [startW], fun x hx => ?_, by simp [startW], fun v wy h => ?_, fun x hx => ?_⟩
  · simp [startW] at hx; subst hx; exact h
  · simp [startW] at h; obtain ⟨rfl, rfl⟩ := h; exact ⟨.nil, by simp [startW]⟩
  · simp [startW] at hx; subst hx; exact .refl
theorem WI.visit {laid : List (Int × Int)} {s n c : Int} {st : WSt} {be : Int × Int} (h : WI laid s n st) (hb : be ∈ laid ∨ (be.2, be.1) ∈ laid) (hr : 0 ≤ be.2 ∧ be.2 < n) (hc : c ∈ st.2) : WI laid s n (Lib.visit c st be) ∧ (∀ x ∈ st.2, x ∈ (Lib.visit c st be).2) ∧ (be.1 = c → be.2 ∈ (Lib.visit c st be).2) ∧ ∃ r, (Lib.visit c st be).2 = st.2 ++ r := by
  unfold Lib.visit
  by_cases e : be.1 = c ∧ st.1.lookup be.2 = none
  · rw [if_pos e]
    obtain ⟨rfl, e2⟩ := e
    have hn : be.2 ∉ st.2 := by rw [← h.ks]; exact lookup_none.mp e2
    obtain ⟨wy, hw⟩ : ∃ wy, st.1.lookup be.1 = some wy := by
      cases q : st.1.lookup be.1 with
      | some wy => exact ⟨wy, rfl⟩
      | none => rw [lookup_none, h.ks] at q; exact absurd hc q
    obtain ⟨p1, p2⟩ := h.pt _ _ (lookup_mem hw)
    refine ⟨⟨by simp [h.ks], ?_, fun x hx => ?_, by simp [h.hd], fun v wy2 hv => ?_, fun x hx => ?_⟩, fun x hx => by simp [hx], fun _ => by simp, _, rfl⟩
    · rw [List.nodup_append]
      exact ⟨h.nd, by simp, fun a ha b hb e => by simp at hb; subst hb; subst e; exact hn ha⟩
    · rcases List.mem_append.mp hx with hx | hx
      · exact h.rg x hx
      · simp at hx; subst hx; exact hr
    · rcases List.mem_append.mp hv with hv | hv
      · obtain ⟨q1, q2⟩ := h.pt _ _ hv
        exact ⟨q1, fun x hx => List.mem_append_left _ (q2 x hx)⟩
      · simp only [List.mem_singleton, Prod.mk.injEq] at hv
        obtain ⟨rfl, rfl⟩ := hv
        rw [hw]
        refine ⟨.snoc p1 (by simpa using hb) fun z => hn (p2 _ z), fun x hx => ?_⟩
        simp only [Option.getD_some, List.mem_append, List.mem_singleton] at hx ⊢
        exact hx.imp (p2 x) id
    · rcases List.mem_append.mp hx with hx | hx
      · exact h.re x hx
      · simp at hx; subst hx; exact .step (h.re _ hc) (by simpa [T] using hb)
  · rw [if_neg e]
    refine ⟨h, fun x hx => hx, fun e1 => ?_, [], by simp⟩
    apply Classical.byContradiction
    intro c2
    exact e ⟨e1, lookup_none.mpr (by rw [h.ks]; exact c2)⟩
theorem WI.pass {laid : List (Int × Int)} {s n c : Int} (hrg : ∀ t ∈ laid, (0 ≤ t.1 ∧ t.1 < n) ∧ (0 ≤ t.2 ∧ t.2 < n)) : ∀ {pre : List (Int × Int)} {st : WSt}, (∀ t ∈ pre, t ∈ laid) → WI laid s n st → c ∈ st.2 →
    WI laid s n (passW pre c st) ∧ (∃ r, (passW pre c st).2 = st.2 ++ r) ∧ ∀ t ∈ pre, (t.1 = c → t.2 ∈ (passW pre c st).2) ∧ (t.2 = c → t.1 ∈ (passW pre c st).2)
  | [], st, _, h, _ => ⟨h, ⟨[], by simp [passW]⟩, by simp⟩
  | t :: pre, st, hp, h, hc => by
    have ht := hp t List.mem_cons_self
    have hr := hrg t ht
    obtain ⟨a1, a2, a3, r1, a4⟩ := h.visit (.inl ht) hr.2 hc
    obtain ⟨b1, b2, b3, r2, b4⟩ := a1.visit (be := (t.2, t.1)) (.inr ht) hr.1 (a2 c hc)
    obtain ⟨c1, ⟨r3, c2⟩, c3⟩ := WI.pass hrg (pre := pre) (fun t h => hp t (List.mem_cons_of_mem _ h)) b1 (b2 c (a2 c hc))
    have e : passW (t :: pre) c st = passW pre c (Lib.visit c (Lib.visit c st t) (t.2, t.1)) := rfl
    rw [e]
    refine ⟨c1, ⟨r1 ++ r2 ++ r3, by rw [c2, b4, a4]; simp⟩, fun u hu => ?_⟩
    rcases List.mem_cons.mp hu with rfl | hu
    · rw [c2]
      exact ⟨fun z => List.mem_append_left _ (b2 _ (a3 z)), fun z => List.mem_append_left _ (b3 z)⟩
    · exact c3 u hu
theorem WI.small {laid : List (Int × Int)} {s n : Int} {st : WSt} (h : WI laid s n st) (n0 : 0 ≤ n) : (st.2.length : Int) ≤ n := by
  have h1 := nodup_le (m := irng 0 n) h.nd fun x hx => mem_ints.mpr (h.rg x hx)
  rw [ints_len] at h1
  omega
/-- all that is left to be done -/
theorem WI.go {laid : List (Int × Int)} {s n : Int} (n0 : 0 ≤ n) (hrg : ∀ t ∈ laid, (0 ≤ t.1 ∧ t.1 < n) ∧ (0 ≤ t.2 ∧ t.2 < n)) : ∀ {m i : Nat} {st : WSt}, WI laid s n st → n < m + i → i ≤ st.2.length → (∀ j : Nat, j < i → ∀ t ∈ laid, (t.1 = st.2[j]! → t.2 ∈ st.2) ∧ (t.2 = st.2[j]! → t.1 ∈ st.2)) →
    WI laid s n (goW laid m i st) ∧ ∀ x ∈ (goW laid m i st).2, ∀ t ∈ laid, (t.1 = x → t.2 ∈ (goW laid m i st).2) ∧ (t.2 = x → t.1 ∈ (goW laid m i st).2)
  | 0, i, st, h, hm, hi, hc => by
    have := h.small n0
    omega
  | m + 1, i, st, h, hm, hi, hc => by
    unfold goW
    split
    · rename_i c
      have hci : st.2[i]! ∈ st.2 := by rw [getElem!_pos st.2 i c]; exact List.getElem_mem _
      obtain ⟨a1, ⟨r, a2⟩, a3⟩ := h.pass hrg (pre := laid) (fun _ h => h) hci
      refine WI.go n0 hrg a1 (by omega) (by rw [a2, List.length_append]; omega) fun j hj t ht => ?_
      have ej : (passW laid st.2[i]! st).2[j]! = st.2[j]! := by
        rw [getElem!_pos _ j (by rw [a2, List.length_append]; omega), getElem!_pos _ j (by omega)]
        simp only [a2]
        exact List.getElem_append_left (by omega)
      rw [ej]
      by_cases e : j = i
      · subst e
        exact ⟨fun z => (a3 t ht).1 z, fun z => (a3 t ht).2 z⟩
      · have := hc j (by omega) t ht
        rw [a2]
        exact ⟨fun z => List.mem_append_left _ (this.1 z), fun z => List.mem_append_left _ (this.2 z)⟩
    · rename_i c
      refine ⟨h, fun x hx t ht => ?_⟩
      obtain ⟨j, hj, rfl⟩ := List.getElem_of_mem hx
      have := hc j (by omega) t ht
      rw [getElem!_pos st.2 j hj] at this
      exact this
theorem wayF_some {laid : List (Int × Int)} {s g n : Int} {wy : List Int} (h0 : 0 ≤ s ∧ s < n) (n9 : n ≤ 99) (hrg : ∀ t ∈ laid, (0 ≤ t.1 ∧ t.1 < n) ∧ (0 ≤ t.2 ∧ t.2 < n)) (h : wayF laid s g = some wy) : Pt laid s g wy := by
  obtain ⟨h1, h2⟩ := WI.go (n := n) (by omega) hrg (m := 100) (i := 0) (WI.start (laid := laid) h0) (by omega) (by omega) (fun j hj => by omega)
  exact (h1.pt _ _ (lookup_mem h)).1
theorem wayF_none {laid : List (Int × Int)} {s g n : Int} (h0 : 0 ≤ s ∧ s < n) (n9 : n ≤ 99) (hrg : ∀ t ∈ laid, (0 ≤ t.1 ∧ t.1 < n) ∧ (0 ≤ t.2 ∧ t.2 < n)) : wayF laid s g = none ↔ ¬ Reach ⟨n, laid⟩ s g := by
  obtain ⟨h1, h2⟩ := WI.go (n := n) (by omega) hrg (m := 100) (i := 0) (WI.start (laid := laid) h0) (by omega) (by omega) (fun j hj => by omega)
  unfold wayF
  rw [lookup_none, h1.ks]
  have key : ∀ x, Reach ⟨n, laid⟩ s x → x ∈ (goW laid 100 0 (startW s)).2 := by
    intro x hx
    induction hx with
    | refl => exact h1.hd
    | step _ t ih =>
      rcases t with t | t
      · exact (h2 _ ih _ t).1 rfl
      · exact (h2 _ ih _ t).2 rfl
  exact ⟨fun a b => a (key g b), fun a b => a (h1.re g b)⟩
abbrev CSt := List (Int × Int) × List (List Int)
def closeS (st : CSt) (t : Int × Int) : CSt := match wayF st.1 t.2 t.1 with
  | none => (st.1 ++ [t], st.2)
  | some wy => (st.1, st.2 ++ [t.1 :: wy.dropLast])
theorem Pt.len {laid : List (Int × Int)} {s v : Int} {l : List Int} (h : Pt laid s v l) : l.Nodup := by
  induction h with
  | nil => simp
  | snoc _ _ hn ih => rw [List.nodup_append]; exact ⟨ih, by simp, fun a ha b hb e => by simp at hb; subst hb; subst e; exact hn ha⟩
theorem Pt.rg {laid : List (Int × Int)} {s v n : Int} {l : List Int} (h : Pt laid s v l) (hs : 0 ≤ s ∧ s < n) (hrg : ∀ t ∈ laid, (0 ≤ t.1 ∧ t.1 < n) ∧ (0 ≤ t.2 ∧ t.2 < n)) : ∀ x ∈ l, 0 ≤ x ∧ x < n := by
  induction h with
  | nil => intro x hx; simp at hx; subst hx; exact hs
  | snoc _ ht _ ih =>
    intro x hx
    rcases List.mem_append.mp hx with hx | hx
    · exact ih x hx
    · simp at hx; subst hx
      rcases ht with ht | ht
      · exact (hrg _ ht).2
      · exact (hrg _ ht).1
theorem Pt.small {laid : List (Int × Int)} {s v n : Int} {l : List Int} (h : Pt laid s v l) (hs : 0 ≤ s ∧ s < n) (hrg : ∀ t ∈ laid, (0 ≤ t.1 ∧ t.1 < n) ∧ (0 ≤ t.2 ∧ t.2 < n)) : (l.length : Int) ≤ n := by
  have h1 := nodup_le (m := irng 0 n) h.len fun x hx => mem_ints.mpr (h.rg hs hrg x hx)
  rw [ints_len] at h1
  omega
end Lib
end G7

namespace G7
namespace Lib
open PySem
open Classical
abbrev sw (z : Int × Int) : Int × Int := (z.2, z.1)
noncomputable def ind (ls : Ar) (z : Int × Int) : Int := if z ∈ ls then 1 else 0
def sumI (l : List Int) : Int := l.foldr (· + ·) 0
theorem sumI_app (a b : List Int) : sumI (a ++ b) = sumI a + sumI b := by
  induction a with
  | nil => simp [sumI]
  | cons x a ih => simp only [List.cons_append, sumI, List.foldr_cons] at ih ⊢; omega
theorem sumI_cons (x : Int) (a : List Int) : sumI (x :: a) = x + sumI a := rfl
theorem sumI_sub {α : Type} (f g : α → Int) (l : List α) : sumI (l.map fun z => f z - g z) = sumI (l.map f) - sumI (l.map g) := by
  induction l with
  | nil => rfl
  | cons x l ih => simp only [List.map_cons, sumI_cons, ih]; omega
theorem sumI_zero {l : List Int} (h : ∀ x ∈ l, x = 0) : sumI l = 0 := by
  induction l with
  | nil => rfl
  | cons x l ih => rw [sumI_cons, h x List.mem_cons_self, ih fun y hy => h y (List.mem_cons_of_mem _ hy)]; rfl
theorem nexts_fst (r : List Int) : (nexts r).map Prod.fst = r := by
  unfold nexts
  rw [List.map_fst_zip]
  cases r <;> simp
theorem nexts_snd (r : List Int) : (nexts r).map Prod.snd = r.tail ++ r.take 1 := by
  unfold nexts
  rw [List.map_snd_zip]
  cases r <;> simp
/-- round a ring all is as it was -/
theorem round_sum (c : Int → Int) (r : List Int) : sumI ((nexts r).map fun z => c z.2 - c z.1) = 0 := by
  rw [sumI_sub (fun z : Int × Int => c z.2) (fun z => c z.1)]
  have e1 : (nexts r).map (fun z : Int × Int => c z.2) = (r.tail ++ r.take 1).map c := by rw [← nexts_snd, List.map_map]; rfl
  have e2 : (nexts r).map (fun z : Int × Int => c z.1) = r.map c := by
    conv => rhs; rw [← nexts_fst r]
    rw [List.map_map]; rfl
  rw [e1, e2]
  cases r with
  | nil => rfl
  | cons x r =>
    simp only [List.tail_cons, List.take_succ_cons, List.take_zero, List.map_append, List.map_cons, List.map_nil, sumI_app, sumI_cons]
    simp only [sumI, List.foldr_nil]
    omega
/-- of a tied pair just one way about is an arrow -/
theorem one_way {w : Web} {p : List Int} (h : isP w p) (a : Acyc (arw w p)) {z : Int × Int} (t : T w z.1 z.2) : (z ∈ arw w p ∧ sw z ∉ arw w p) ∨ (z ∉ arw w p ∧ sw z ∈ arw w p) := by
  have no : ¬ (z ∈ arw w p ∧ sw z ∈ arw w p) := fun ⟨h1, h2⟩ => by
    obtain ⟨f, hf⟩ := a
    have := hf _ h1
    have := hf _ h2
    simp only at *
    omega
  rcases t with t | t
  · rcases arw_tie h t with c | c
    · exact .inl ⟨c, fun d => no ⟨c, d⟩⟩
    · exact .inr ⟨fun d => no ⟨d, c⟩, c⟩
  · rcases arw_tie h t with c | c
    · exact .inr ⟨fun d => no ⟨d, c⟩, c⟩
    · exact .inl ⟨c, fun d => no ⟨c, d⟩⟩
/-- numbers that fit two pointings -/
def Fit (w : Web) (p q : List Int) (c : Int → Int) : Prop := ∀ t ∈ arw w p, c t.1 - c t.2 = 1 - ind (arw w q) t
theorem fit_step {w : Web} {p q : List Int} (hp : isP w p) (hq : isP w q) (ap : Acyc (arw w p)) (aq : Acyc (arw w q)) {c : Int → Int} (f : Fit w p q c) {z : Int × Int} (t : T w z.1 z.2) : c z.2 - c z.1 = ind (arw w q) z - ind (arw w p) z := by
  unfold ind
  rcases one_way hp ap t with ⟨h1, h2⟩ | ⟨h1, h2⟩
  · have := f _ h1
    unfold ind at this
    rw [if_pos h1]; omega
  · have := f _ h2
    unfold ind at this
    simp only [sw] at this
    rw [if_neg h1]
    rcases one_way hq aq t with ⟨g1, g2⟩ | ⟨g1, g2⟩
    · rw [if_neg g2] at this; rw [if_pos g1]; omega
    · rw [if_pos g2] at this; rw [if_neg g1]; omega
theorem fit_of {w : Web} {p q : List Int} (hp : isP w p) {c : Int → Int} (h : ∀ z, T w z.1 z.2 → c z.2 - c z.1 = ind (arw w q) z - ind (arw w p) z) : Fit w p q c := fun t ht => by
  have tt : T w t.1 t.2 := by
    obtain ⟨k, hk, rfl⟩ := (mem_arw hp).mp ht
    have hm : w.ts[k]! ∈ w.ts := by rw [getElem!_pos w.ts k (by rw [← hp.1]; exact hk)]; exact List.getElem_mem _
    unfold arr
    split
    · exact .inl hm
    · exact .inr hm
  have := h t tt
  unfold ind at this ⊢
  rw [if_pos ht] at this
  omega
/-- a ring of a web -/
structure Rg' (w : Web) (r : List Int) : Prop where
  nd : r.Nodup
  l3 : 3 ≤ r.length
  td : ∀ z ∈ nexts r, T w z.1 z.2
abbrev adj (E : List (Int × Int)) (z : Int × Int) : Prop := z ∈ E ∨ sw z ∈ E
theorem zip_tail {u a : Int} : ∀ {l : List Int}, l.getLast? = some u → l.zip (l.tail ++ [a]) = l.zip l.tail ++ [(u, a)]
  | [], h => by simp at h
  | [x], h => by simp at h; subst h; rfl
  | x :: y :: l, h => by
    have ih := zip_tail (u := u) (a := a) (l := y :: l) (by simpa using h)
    simp only [List.tail_cons, List.cons_append, List.zip_cons_cons] at ih ⊢
    rw [ih]
theorem zip_over {v : Int} : ∀ {l : List Int}, l ≠ [] → (l ++ [v]).zip (l ++ [v]).tail = l.zip (l.tail ++ [v])
  | [], h => absurd rfl h
  | [x], _ => rfl
  | x :: y :: l, _ => by
    have ih := zip_over (v := v) (l := y :: l) (by simp)
    simp only [List.tail_cons, List.cons_append, List.zip_cons_cons] at ih ⊢
    rw [ih]
theorem Pt.facts {laid : List (Int × Int)} {s v : Int} {l : List Int} (h : Pt laid s v l) : l ≠ [] ∧ (∃ r, l = s :: r) ∧ l.getLast? = some v ∧ ∀ z ∈ l.zip l.tail, adj laid z := by
  induction h with
  | nil => exact ⟨by simp, ⟨[], rfl⟩, rfl, by simp⟩
  | @snoc u v l _ ht hn ih =>
    obtain ⟨i1, ⟨r, i2⟩, i3, i4⟩ := ih
    refine ⟨by simp, ⟨r ++ [v], by rw [i2]; rfl⟩, by simp, fun z hz => ?_⟩
    rw [zip_over i1, zip_tail i3] at hz
    rcases List.mem_append.mp hz with hz | hz
    · exact i4 z hz
    · simp at hz; subst hz; exact ht
theorem ring_nexts {laid : List (Int × Int)} {a b u : Int} {l : List Int} (h : Pt laid b u l) : nexts (a :: l) = (a, b) :: (l.zip l.tail ++ [(u, a)]) := by
  obtain ⟨_, ⟨r, i2⟩, i3, _⟩ := h.facts
  rw [← zip_tail i3]
  unfold nexts
  subst i2
  simp
theorem Pt.inv {laid : List (Int × Int)} {s v : Int} {l : List Int} (h : Pt laid s v l) (ne : s ≠ v) : ∃ u m, l = m ++ [v] ∧ Pt laid s u m ∧ adj laid (u, v) ∧ v ∉ m := by
  cases h with
  | nil => exact absurd rfl ne
  | snoc a b c => exact ⟨_, _, rfl, a, b, c⟩
structure CI (n : Int) (E : List (Int × Int)) (st : CSt) : Prop where
  sub : ∀ t ∈ st.1, t ∈ E
  con : ∀ t ∈ E, Reach ⟨n, st.1⟩ t.1 t.2
  rgs : ∀ r ∈ st.2, r.Nodup ∧ 3 ≤ r.length ∧ ∀ z ∈ nexts r, adj E z
  pot : ∀ g : Int × Int → Int, (∀ z, adj E z → g (sw z) = - g z) → (∀ r ∈ st.2, sumI ((nexts r).map g) = 0) → ∃ c : Int → Int, ∀ t ∈ E, c t.2 - c t.1 = g t
theorem CI.step {n : Int} {E : List (Int × Int)} {st : CSt} (h : CI n E st) (n9 : n ≤ 99) {t : Int × Int} (hrg : ∀ u ∈ E, (0 ≤ u.1 ∧ u.1 < n) ∧ (0 ≤ u.2 ∧ u.2 < n)) (ht : (0 ≤ t.1 ∧ t.1 < n) ∧ (0 ≤ t.2 ∧ t.2 < n)) (ne : t.1 ≠ t.2) (nt : ¬ adj E t) : CI n (E ++ [t]) (closeS st t) := by
  have hsub := h.sub
  have hrl : ∀ u ∈ st.1, (0 ≤ u.1 ∧ u.1 < n) ∧ (0 ≤ u.2 ∧ u.2 < n) := fun u hu => hrg u (hsub u hu)
  have up : ∀ {z}, adj E z → adj (E ++ [t]) z := fun h => h.imp (List.mem_append_left _) (List.mem_append_left _)
  unfold closeS
  cases e : wayF st.1 t.2 t.1 with
  | none =>
    have hnr := (wayF_none (n := n) ht.2 n9 hrl).mp e
    refine ⟨fun u hu => ?_, fun u hu => ?_, fun r hr => ?_, fun g hg hs => ?_⟩
    · rcases List.mem_append.mp hu with hu | hu
      · exact List.mem_append_left _ (hsub u hu)
      · exact List.mem_append_right _ hu
    · rcases List.mem_append.mp hu with hu | hu
      · exact Reach.more (fun v hv => List.mem_append_left _ hv) (h.con u hu)
      · simp at hu; subst hu
        exact .step .refl (.inl (by simp))
    · obtain ⟨a, b, c⟩ := h.rgs r hr
      exact ⟨a, b, fun z hz => up (c z hz)⟩
    · obtain ⟨c, hc⟩ := h.pot g (fun z hz => hg z (up hz)) hs
      refine ⟨fun x => if Reach ⟨n, st.1⟩ t.2 x then c x + (g t - (c t.2 - c t.1)) else c x, fun u hu => ?_⟩
      simp only
      rcases List.mem_append.mp hu with hu | hu
      · have hcu := hc u hu
        by_cases r1 : Reach ⟨n, st.1⟩ t.2 u.1
        · rw [if_pos r1, if_pos (r1.trans (h.con u hu))]; omega
        · rw [if_neg r1, if_neg fun r2 => r1 (r2.trans (h.con u hu).symm)]; exact hcu
      · simp at hu; subst hu
        rw [if_pos .refl, if_neg hnr]; omega
  | some wy =>
    have hp := wayF_some (n := n) ht.2 n9 hrl e
    · obtain ⟨u, l, rfl, hp, ha, hn⟩ := hp.inv (fun c => ne c.symm)
      simp only
      rw [List.dropLast_concat]
      have hnx := ring_nexts (a := t.1) hp
      obtain ⟨i1, ⟨r, i2⟩, i3, i4⟩ := hp.facts
      have adjE : ∀ {z}, adj st.1 z → adj E z := fun h => h.imp (hsub _) (hsub _)
      have l3 : 3 ≤ (t.1 :: l).length := by
        cases r with
        | nil =>
          exfalso
          subst i2
          simp at i3
          subst i3
          exact nt (adjE (.symm (by simpa using ha)))
        | cons y r => rw [i2]; simp
      have hadj : ∀ z ∈ l.zip l.tail ++ [(u, t.1)], adj E z := fun z hz => by
        rcases List.mem_append.mp hz with hz | hz
        · exact adjE (i4 z hz)
        · simp at hz; subst hz; exact adjE ha
      refine ⟨fun v hv => List.mem_append_left _ (hsub v hv), fun v hv => ?_, fun r2 hr => ?_, fun g hg hs => ?_⟩
      · rcases List.mem_append.mp hv with hv | hv
        · exact h.con v hv
        · simp at hv; subst hv
          have : ¬ wayF st.1 v.2 v.1 = none := by rw [e]; simp
          rw [wayF_none (n := n) ht.2 n9 hrl, Classical.not_not] at this
          exact this.symm
      · rcases List.mem_append.mp hr with hr | hr
        · obtain ⟨a, b, c⟩ := h.rgs r2 hr
          exact ⟨a, b, fun z hz => up (c z hz)⟩
        · simp at hr; subst hr
          refine ⟨List.nodup_cons.mpr ⟨hn, hp.len⟩, l3, fun z hz => ?_⟩
          rw [hnx] at hz
          rcases List.mem_cons.mp hz with rfl | hz
          · exact .inl (List.mem_append_right _ (by simp))
          · exact up (hadj z hz)
      · obtain ⟨c, hc⟩ := h.pot g (fun z hz => hg z (up hz)) (fun r hr => hs r (List.mem_append_left _ hr))
        refine ⟨c, fun v hv => ?_⟩
        rcases List.mem_append.mp hv with hv | hv
        · exact hc v hv
        · simp at hv; subst hv
          have s1 := hs (v.1 :: l) (by simp)
          have s2 := round_sum c (v.1 :: l)
          have s3 := sumI_sub g (fun z : Int × Int => c z.2 - c z.1) (nexts (v.1 :: l))
          rw [s1, s2, hnx, List.map_cons, sumI_cons, sumI_zero (l := (l.zip l.tail ++ [(u, v.1)]).map fun z => g z - (c z.2 - c z.1)) (fun x hx => ?_)] at s3
          · simp only at s3
            have e : g (v.1, v.2) = g v := rfl
            omega
          · obtain ⟨z, hz, rfl⟩ := List.mem_map.mp hx
            have goal : g z - (c z.2 - c z.1) = 0 := by
              rcases hadj z hz with z1 | z1
              · have := hc z z1; omega
              · have h1 : c z.1 - c z.2 = g (sw z) := hc (sw z) z1
                have h2 := hg z (up (.inr z1))
                omega
            exact goal
theorem Rg'.small {w : Web} (o : w.ok) {r : List Int} (h : Rg' w r) : (r.length : Int) ≤ w.n := by
  have n1 := o.n1
  have hm : ∀ x ∈ r, 0 ≤ x ∧ x < w.n := fun x hx => by
    have : x ∈ (nexts r).map Prod.fst := by rw [nexts_fst]; exact hx
    obtain ⟨z, hz, rfl⟩ := List.mem_map.mp this
    rcases h.td z hz with t | t
    · have := o.rg _ t; simp only at this; omega
    · have := o.rg _ t; simp only at this; omega
  have h1 := nodup_le (m := irng 0 w.n) h.nd fun x hx => mem_ints.mpr (hm x hx)
  rw [ints_len] at h1
  omega
end Lib
end G7

namespace G7
namespace Lib
open PySem
theorem spr_mem {w : Web} {p : List Int} {v : Int} : v ∈ sprF w p ↔ (0 ≤ v ∧ v < w.n) ∧ ∀ t ∈ arw w p, t.2 ≠ v := by
  unfold sprF
  simp only [List.mem_filter, mem_ints, Bool.not_eq_true', decide_eq_false_iff_not, List.mem_map, not_exists, not_and]
theorem spr_acyc {w : Web} (o : w.ok) {p : List Int} (hp : isP w p) (ap : Acyc (arw w p)) {v : Int} (hv : v ∈ sprF w p) : Acyc (arw w (abtF w p v)) :=
  abt_source o hp ap fun c => by
    obtain ⟨t, ht, e⟩ := List.mem_map.mp c
    exact (spr_mem.mp hv).2 t ht e
/-- the numbers that fit, one place being turned -/
theorem fit_turn {w : Web} {p q : List Int} (hp : isP w p) (hq : isP w q) (ap : Acyc (arw w p)) (aq : Acyc (arw w q)) {c : Int → Int} (f : Fit w p q c) {v : Int} (hv : v ∈ sprF w p) : Fit w (abtF w p v) q fun x => if x = v then c x - 1 else c x := fun t ht => by
  have hs := (spr_mem.mp hv).2
  rcases abt_mem hp ht with ⟨e, hm⟩ | ⟨e, hm⟩
  · unfold tch at e
    simp only [decide_eq_false_iff_not, not_or] at e
    simp only
    rw [if_neg fun z => e.1 z.symm, if_neg fun z => e.2 z.symm]
    exact f t hm
  · unfold tch at e
    simp only [decide_eq_true_eq] at e
    have h1 := hs _ hm
    have h2 := f _ hm
    simp only at h1 h2
    have hne : t.1 ≠ t.2 := fun z => by
      obtain ⟨g, hg⟩ := ap
      have := hg _ hm
      simp only [z] at this; omega
    have tt : T w t.1 t.2 := by
      obtain ⟨k, hk, e2⟩ := (mem_arw hp).mp hm
      have hm2 : w.ts[k]! ∈ w.ts := by rw [getElem!_pos w.ts k (by rw [← hp.1]; exact hk)]; exact List.getElem_mem _
      unfold arr at e2
      split at e2
      · rw [← e2] at hm2; exact .inr hm2
      · have : w.ts[k]! = (t.1, t.2) := by
          have a := congrArg Prod.fst e2
          have b := congrArg Prod.snd e2
          simp only at a b
          exact Prod.ext b.symm a.symm
        rw [this] at hm2; exact .inl hm2
    simp only
    rcases e with e | e
    · exact absurd e.symm h1
    · rw [if_neg h1, if_pos e.symm]
      have hsum : ind (arw w q) t + ind (arw w q) (t.2, t.1) = 1 := by
        unfold ind
        rcases one_way hq aq tt with ⟨a, b⟩ | ⟨a, b⟩
        · rw [if_pos a, if_neg b]; rfl
        · rw [if_neg a, if_pos b]; rfl
      omega
def topL (l : List Int) : Int := (maxI l).getD 0
theorem topL_ex {l : List Int} (h : l ≠ []) : maxAD [LI l] = some (.int (topL l)) ∧ topL l ∈ l ∧ ∀ y ∈ l, y ≤ topL l := by
  obtain ⟨M, h1, h2, h3⟩ := maxAD_ex h
  have : topL l = M := by
    unfold topL
    simp only [maxAD, intsD_map, Option.bind_some, Option.map_eq_some_iff] at h1
    obtain ⟨a, ha, e⟩ := h1
    cases e
    rw [ha]; rfl
  rw [this]
  exact ⟨h1, h2, h3⟩
def topF (w : Web) (p l : List Int) : Int := ((sprF w p).filter fun s => decide (gI l s = topL l)).headD 0
def rowF (w : Web) : Nat → List Int → List Int → List Int
  | 0, _, _ => []
  | m + 1, p, l => topF w p l :: rowF w m (abtF w p (topF w p l)) (l.set (topF w p l).toNat (gI l (topF w p l) - 1))
def turnsGo (w : Web) : List Int → List Int → Option (List Int)
  | p, [] => some p
  | p, v :: vs => if v ∈ sprF w p then turnsGo w (abtF w p v) vs else none
theorem Fit.congr {w : Web} (o : w.ok) {p q : List Int} {c d : Int → Int} (f : Fit w p q c) (h : ∀ x, 0 ≤ x → x < w.n → c x = d x) : Fit w p q d := fun t ht => by
  have := arw_rg o t ht
  rw [← h t.1 this.1.1 this.1.2, ← h t.2 this.2.1 this.2.2]
  exact f t ht
theorem same_arw {w : Web} {p q : List Int} (hp : isP w p) (hq : isP w q) (aq : Acyc (arw w q)) (h : ∀ t ∈ arw w p, t ∈ arw w q) : p = q := by
  refine List.ext_getElem (by rw [hp.1, hq.1]) fun k h1 h2 => ?_
  have a : p[k] = 0 ∨ p[k] = 1 := hp.2 _ (List.getElem_mem h1)
  have b : q[k] = 0 ∨ q[k] = 1 := hq.2 _ (List.getElem_mem h2)
  have m1 := h _ ((mem_arw hp).mpr ⟨k, h1, rfl⟩)
  have m2 : arr w q k ∈ arw w q := (mem_arw hq).mpr ⟨k, h2, rfl⟩
  obtain ⟨f, hf⟩ := aq
  have g1 := hf _ m1
  have g2 := hf _ m2
  unfold arr at g1 g2
  rw [getElem!_pos p k h1] at g1
  rw [getElem!_pos q k h2] at g2
  rcases a with a | a <;> rcases b with b | b <;> rw [a] at g1 ⊢ <;> rw [b] at g2 ⊢ <;> simp at g1 g2 <;> omega
theorem top_ok {w : Web} (o : w.ok) {p q l : List Int} (ap : Acyc (arw w p)) (hl : (l.length : Int) = w.n) (f : Fit w p q (gI l)) : topF w p l ∈ sprF w p ∧ gI l (topF w p l) = topL l := by
  have n1 := o.n1
  have hne : l ≠ [] := fun c => by rw [c] at hl; simp at hl; omega
  obtain ⟨_, t2, t3⟩ := topL_ex hne
  obtain ⟨i, hi, e⟩ := List.getElem_of_mem t2
  have hne2 : (irng 0 w.n).filter (fun s => decide (gI l s = topL l)) ≠ [] := by
    refine List.ne_nil_of_mem (a := (i : Int)) (List.mem_filter.mpr ⟨mem_ints.mpr ⟨by omega, by omega⟩, ?_⟩)
    unfold gI
    rw [Int.toNat_natCast, getElem!_pos l i hi, e]; simp
  obtain ⟨s, hs, hst⟩ := ap.stuck hne2
  obtain ⟨hs1, hs2⟩ := List.mem_filter.mp hs
  have hs2 : gI l s = topL l := by simpa using hs2
  have hspr : s ∈ sprF w p := spr_mem.mpr ⟨mem_ints.mp hs1, fun t ht e => by
    have hr := arw_rg o t ht
    have h1 := f t ht
    have h2 := t3 (gI l t.1) (gI_mem hr.1.1 (by omega))
    have h3 : 0 ≤ 1 - ind (arw w q) t := by unfold ind; split <;> omega
    have h4 : gI l t.1 = topL l := by rw [e] at h1; omega
    refine hst t.1 (List.mem_filter.mpr ⟨mem_ints.mpr hr.1, by simpa using h4⟩) ?_
    have : t = (t.1, s) := Prod.ext rfl e
    rw [← this]; exact ht⟩
  have hm : s ∈ (sprF w p).filter fun s => decide (gI l s = topL l) := List.mem_filter.mpr ⟨hspr, by simpa using hs2⟩
  have : topF w p l ∈ (sprF w p).filter fun s => decide (gI l s = topL l) := by
    unfold topF
    cases q : (sprF w p).filter fun s => decide (gI l s = topL l) with
    | nil => rw [q] at hm; simp at hm
    | cons x xs => simp
  obtain ⟨a, b⟩ := List.mem_filter.mp this
  exact ⟨a, by simpa using b⟩
theorem sumI_pos {l : List Int} (h : ∀ x ∈ l, 0 ≤ x) : 0 ≤ sumI l ∧ ∀ x ∈ l, x ≤ sumI l := by
  induction l with
  | nil => simp [sumI]
  | cons a l ih =>
    obtain ⟨i1, i2⟩ := ih fun x hx => h x (List.mem_cons_of_mem _ hx)
    have := h a List.mem_cons_self
    rw [sumI_cons]
    refine ⟨by omega, fun x hx => ?_⟩
    rcases List.mem_cons.mp hx with rfl | hx
    · omega
    · have := i2 x hx; omega
theorem sumI_set : ∀ {l : List Int} {i : Nat} {x : Int} (h : i < l.length), sumI (l.set i x) = sumI l - l[i] + x
  | [], _, _, h => by simp at h
  | a :: l, 0, x, _ => by simp only [List.set_cons_zero, sumI_cons, List.getElem_cons_zero]; omega
  | a :: l, i + 1, x, h => by
    have := sumI_set (l := l) (i := i) (x := x) (by simpa using h)
    simp only [List.set_cons_succ, sumI_cons, List.getElem_cons_succ, this]; omega
/-- one step of a row -/
theorem row_step {w : Web} (o : w.ok) {p q l : List Int} (hp : isP w p) (hq : isP w q) (ap : Acyc (arw w p)) (aq : Acyc (arw w q)) (hl : (l.length : Int) = w.n) (f : Fit w p q (gI l)) (h0 : ∀ x ∈ l, 0 ≤ x) (hpos : 0 < topL l) :
    (0 ≤ topF w p l ∧ topF w p l < w.n) ∧ isP w (abtF w p (topF w p l)) ∧ Acyc (arw w (abtF w p (topF w p l))) ∧ Fit w (abtF w p (topF w p l)) q (gI (l.set (topF w p l).toNat (gI l (topF w p l) - 1))) ∧ (∀ x ∈ l.set (topF w p l).toNat (gI l (topF w p l) - 1), 0 ≤ x) ∧
      (sumI (l.set (topF w p l).toNat (gI l (topF w p l) - 1))).toNat + 1 = (sumI l).toNat := by
  obtain ⟨t1, t2⟩ := top_ok o ap hl f
  have hr := (spr_mem.mp t1).1
  have hlt : (topF w p l).toNat < l.length := by omega
  have hg : gI l (topF w p l) = l[(topF w p l).toNat] := by unfold gI; rw [getElem!_pos l _ hlt]
  refine ⟨hr, abt_isP hp, spr_acyc o hp ap t1, (fit_turn hp hq ap aq f t1).congr o fun x x0 x1 => ?_, fun x hx => ?_, ?_⟩
  · rw [gI_set hr.1 x0 (by omega)]
    split
    · next c => rw [c]
    · rfl
  · rcases List.mem_or_eq_of_mem_set hx with hx | rfl
    · exact h0 x hx
    · omega
  · rw [sumI_set hlt, ← hg]
    have := (sumI_pos h0).2 (gI l (topF w p l)) (gI_mem hr.1 (by omega))
    omega
theorem row_ok {w : Web} (o : w.ok) {q : List Int} (hq : isP w q) (aq : Acyc (arw w q)) : ∀ {m : Nat} {p l : List Int}, isP w p → Acyc (arw w p) → (l.length : Int) = w.n → Fit w p q (gI l) → (∀ x ∈ l, 0 ≤ x) → m = (sumI l).toNat →
    turnsGo w p (rowF w m p l) = some q ∧ (rowF w m p l).length = m ∧ ∀ v, 0 ≤ v → v < w.n → ((rowF w m p l).count v : Int) = gI l v
  | 0, p, l, hp, ap, hl, f, h0, hm => by
    have hz : ∀ x ∈ l, x = 0 := fun x hx => by
      have := (sumI_pos h0).2 x hx
      have := h0 x hx
      have := (sumI_pos h0).1
      omega
    have hgz : ∀ x, 0 ≤ x → x < w.n → gI l x = 0 := fun x a b => hz _ (gI_mem a (by omega))
    refine ⟨?_, rfl, fun v a b => by rw [hgz v a b]; simp [rowF]⟩
    have : p = q := same_arw hp hq aq fun t ht => by
      have hr := arw_rg o t ht
      have := f t ht
      rw [hgz _ hr.1.1 hr.1.2, hgz _ hr.2.1 hr.2.2] at this
      unfold ind at this
      split at this
      · assumption
      · omega
    rw [this]; rfl
  | m + 1, p, l, hp, ap, hl, f, h0, hm => by
    have n1 := o.n1
    have hne : l ≠ [] := fun c => by rw [c] at hl; simp at hl; omega
    have hpos : 0 < topL l := by
      apply Classical.byContradiction
      intro c
      have t3 := (topL_ex hne).2.2
      have : sumI l = 0 := sumI_zero fun x hx => by have := t3 x hx; have := h0 x hx; omega
      rw [this] at hm; simp at hm
    obtain ⟨t1, t2⟩ := top_ok o ap hl f
    obtain ⟨s1, s2, s3, s4, s5, s6⟩ := row_step o hp hq ap aq hl f h0 hpos
    obtain ⟨i1, i2, i3⟩ := row_ok o hq aq (m := m) s2 s3 (by rw [List.length_set]; exact hl) s4 s5 (by omega)
    unfold rowF
    refine ⟨?_, by rw [List.length_cons, i2], fun v a b => ?_⟩
    · unfold turnsGo
      rw [if_pos t1]; exact i1
    · rw [List.count_cons]
      have := i3 v a b
      rw [gI_set s1.1 a (by omega)] at this
      by_cases c : v = topF w p l
      · rw [if_pos c] at this
        have e : (topF w p l == v) = true := by simp [c]
        rw [e, if_pos rfl]
        rw [← c] at this
        rw [← c]
        omega
      · rw [if_neg c] at this
        have e : (topF w p l == v) = false := by simp; exact fun z => c z.symm
        rw [e]
        simpa using this
end Lib
end G7

namespace G7
namespace Lib
open PySem
structure PIv (w : Web) (x : Int) (c : Int → Int) (m : List (Int × Int)) (line : List Int) : Prop where
  ks : m.map Prod.fst = line
  nd : line.Nodup
  hd : x ∈ line
  re : ∀ v ∈ line, Reach w x v
  vl : ∀ v k, (v, k) ∈ m → k = c v - c x
theorem PIv.small {w : Web} (o : w.ok) {x : Int} (hx : 0 ≤ x ∧ x < w.n) {c : Int → Int} {m : List (Int × Int)} {line : List Int} (h : PIv w x c m line) : (line.length : Int) ≤ w.n := by
  have n1 := o.n1
  have h1 := nodup_le (m := irng 0 w.n) h.nd fun v hv => mem_ints.mpr ((h.re v hv).rg o hx)
  rw [ints_len] at h1
  omega
theorem PIv.add {w : Web} {x : Int} {c : Int → Int} {m : List (Int × Int)} {line : List Int} (h : PIv w x c m line) {u v k : Int} (hu : u ∈ line) (t : T w u v) (hn : m.lookup v = none) (hk : k = c v - c x) : PIv w x c (m ++ [(v, k)]) (line ++ [v]) := by
  rw [lookup_none, h.ks] at hn
  refine ⟨by simp [h.ks], ?_, by simp [h.hd], fun z hz => ?_, fun z k2 hz => ?_⟩
  · rw [List.nodup_append]
    exact ⟨h.nd, by simp, fun a ha b hb e => by simp at hb; subst hb; subst e; exact hn ha⟩
  · rcases List.mem_append.mp hz with hz | hz
    · exact h.re z hz
    · simp at hz; subst hz; exact .step (h.re u hu) t
  · rcases List.mem_append.mp hz with hz | hz
    · exact h.vl z k2 hz
    · simp at hz; obtain ⟨rfl, rfl⟩ := hz; exact hk
theorem arw_T {w : Web} {p : List Int} (hp : isP w p) {t : Int × Int} (ht : t ∈ arw w p) : T w t.1 t.2 := by
  obtain ⟨k, hk, rfl⟩ := (mem_arw hp).mp ht
  have hm : w.ts[k]! ∈ w.ts := by rw [getElem!_pos w.ts k (by rw [← hp.1]; exact hk)]; exact List.getElem_mem _
  unfold arr
  split
  · exact .inl hm
  · exact .inr hm
end Lib
end G7

namespace G7
namespace Lib
open PySem
structure Norm (w : Web) (p q l : List Int) : Prop where
  len : (l.length : Int) = w.n
  fit : Fit w p q (gI l)
  nn : ∀ x ∈ l, 0 ≤ x
  z : ∀ x, 0 ≤ x → x < w.n → ∃ y, Reach w x y ∧ gI l y = 0
theorem fit_adj {w : Web} {p q : List Int} (hp : isP w p) (hq : isP w q) (ap : Acyc (arw w p)) (aq : Acyc (arw w q)) {c : Int → Int} (f : Fit w p q c) {u v : Int} (t : T w u v) : c v ≤ c u + 1 ∧ c u ≤ c v + 1 := by
  have := fit_step hp hq ap aq f (z := (u, v)) t
  unfold ind at this
  simp only at this
  split at this <;> split at this <;> omega
theorem fit_mid {w : Web} {p q : List Int} (hp : isP w p) (hq : isP w q) (ap : Acyc (arw w p)) (aq : Acyc (arw w q)) {c : Int → Int} (f : Fit w p q c) {y x : Int} (h : Reach w y x) (hy : c y = 0) : ∀ m : Int, 0 ≤ m → m ≤ c x → ∃ v, Reach w y v ∧ c v = m := by
  induction h with
  | refl => intro m m0 m1; exact ⟨y, .refl, by omega⟩
  | @step u v hr t ih =>
    intro m m0 m1
    have := fit_adj hp hq ap aq f t
    by_cases e : m ≤ c u
    · exact ih m m0 e
    · exact ⟨v, .step hr t, by omega⟩
theorem Norm.small {w : Web} (o : w.ok) {p q l : List Int} (hp : isP w p) (hq : isP w q) (ap : Acyc (arw w p)) (aq : Acyc (arw w q)) (h : Norm w p q l) : ∀ x ∈ l, x < w.n := fun k hk => by
  have n1 := o.n1
  obtain ⟨i, hi, e⟩ := List.getElem_of_mem hk
  have hl := h.len
  have hg : gI l i = k := by unfold gI; rw [Int.toNat_natCast, getElem!_pos l i hi]; exact e
  obtain ⟨y, hy, hy0⟩ := h.z i (by omega) (by omega)
  have hyr := hy.rg o (by omega)
  have mid := fit_mid hp hq ap aq h.fit hy.symm hy0
  have k0 := h.nn k hk
  let ch : Int → Int := fun m => if hm : 0 ≤ m ∧ m ≤ gI l i then Classical.choose (mid m hm.1 hm.2) else 0
  have hch : ∀ m, 0 ≤ m → m ≤ k → Reach w y (ch m) ∧ gI l (ch m) = m := fun m m0 m1 => by
    have hm : 0 ≤ m ∧ m ≤ gI l i := ⟨m0, by omega⟩
    have : ch m = Classical.choose (mid m hm.1 hm.2) := by show (if hm : _ then _ else _) = _; rw [dif_pos hm]
    rw [this]
    exact Classical.choose_spec (mid m hm.1 hm.2)
  have hnd : ((irng 0 (k + 1)).map ch).Nodup := by
    rw [List.nodup_iff_pairwise_ne, List.pairwise_map]
    have : (irng 0 (k + 1)).Pairwise (· < ·) := ints_sorted _ _
    refine this.imp_of_mem fun {a b} ha hb hab e => ?_
    have ha := mem_ints.mp ha
    have hb := mem_ints.mp hb
    have e1 := (hch a ha.1 (by omega)).2
    have e2 := (hch b hb.1 (by omega)).2
    rw [e, e2] at e1
    omega
  have := nodup_le (m := irng 0 w.n) hnd fun z hz => by
    obtain ⟨m, hm, rfl⟩ := List.mem_map.mp hz
    have hm := mem_ints.mp hm
    exact mem_ints.mpr ((hch m hm.1 (by omega)).1.rg o hyr)
  rw [List.length_map, ints_len, ints_len] at this
  omega
theorem sumI_le {l : List Int} {b : Int} (h : ∀ x ∈ l, x ≤ b) : sumI l ≤ b * l.length := by
  induction l with
  | nil => simp [sumI]
  | cons a l ih =>
    have h1 := ih fun x hx => h x (List.mem_cons_of_mem _ hx)
    have h2 := h a List.mem_cons_self
    rw [sumI_cons, List.length_cons]
    have : b * ((l.length + 1 : Nat) : Int) = b * l.length + b := by rw [Int.natCast_add, Int.mul_add]; omega
    omega
theorem Norm.sum {w : Web} (o : w.ok) {p q l : List Int} (hp : isP w p) (hq : isP w q) (ap : Acyc (arw w p)) (aq : Acyc (arw w q)) (h : Norm w p q l) : sumI l ≤ 100 := by
  have n1 := o.n1
  have n9 := o.n9
  have h1 := sumI_le (l := l) (b := 9) fun x hx => by have := h.small o hp hq ap aq x hx; omega
  have := h.len
  omega
theorem Norm.one {w : Web} (o : w.ok) {p q l l2 : List Int} (hp : isP w p) (hq : isP w q) (ap : Acyc (arw w p)) (aq : Acyc (arw w q)) (h : Norm w p q l) (h2 : Norm w p q l2) : l = l2 := by
  have e1 := h.len
  have e2 := h2.len
  have dif : ∀ {x y}, Reach w x y → gI l x - gI l2 x = gI l y - gI l2 y := fun r => by
    induction r with
    | refl => rfl
    | step _ t ih =>
      have a := fit_step hp hq ap aq h.fit (z := (_, _)) t
      have b := fit_step hp hq ap aq h2.fit (z := (_, _)) t
      simp only at a b
      omega
  refine List.ext_getElem (by omega) fun i h1 h3 => ?_
  have g1 : gI l i = l[i] := by unfold gI; rw [Int.toNat_natCast, getElem!_pos l i h1]
  have g2 : gI l2 i = l2[i] := by unfold gI; rw [Int.toNat_natCast, getElem!_pos l2 i h3]
  rw [← g1, ← g2]
  obtain ⟨y, hy, hy0⟩ := h.z i (by omega) (by omega)
  obtain ⟨z, hz, hz0⟩ := h2.z i (by omega) (by omega)
  have d1 := dif hy
  have d2 := dif hz
  have ry := hy.rg o (by omega)
  have rz := hz.rg o (by omega)
  have n1 := h2.nn _ (gI_mem (l := l2) ry.1 (by omega))
  have n2 := h.nn _ (gI_mem (l := l) rz.1 (by omega))
  omega
structure OIv (w : Web) (c : Int → Int) (m : List (Int × Int)) : Prop where
  nd : (m.map Prod.fst).Nodup
  rg : ∀ v ∈ m.map Prod.fst, 0 ≤ v ∧ v < w.n
  cl : ∀ v ∈ m.map Prod.fst, ∀ u, Reach w v u → u ∈ m.map Prod.fst
  nn : ∀ v k, (v, k) ∈ m → 0 ≤ k
  df : ∀ v k u j, (v, k) ∈ m → (u, j) ∈ m → Reach w v u → k - j = c v - c u
  zz : ∀ v ∈ m.map Prod.fst, ∃ u, Reach w v u ∧ (u, 0) ∈ m
theorem OIv.add {w : Web} (o : w.ok) {c : Int → Int} {m m2 : List (Int × Int)} (h : OIv w c m) {x n : Int} (hx : 0 ≤ x ∧ x < w.n) (hn : x ∉ m.map Prod.fst) (nd2 : (m2.map Prod.fst).Nodup) (re2 : ∀ v, v ∈ m2.map Prod.fst ↔ Reach w x v) (vl2 : ∀ v k, (v, k) ∈ m2 → k = c v - c x)
    (mn : (∃ v, (v, n) ∈ m2) ∧ ∀ v k, (v, k) ∈ m2 → n ≤ k) : OIv w c (m ++ m2.map fun p => (p.1, p.2 - n)) ∧ (∀ v ∈ m2.map Prod.fst, v ∉ m.map Prod.fst) := by
  have dis : ∀ v ∈ m2.map Prod.fst, v ∉ m.map Prod.fst := fun v hv c => hn (h.cl v c x ((re2 v).mp hv).symm)
  have ek : (m2.map fun p => (p.1, p.2 - n)).map Prod.fst = m2.map Prod.fst := by rw [List.map_map]; rfl
  have mem2 : ∀ {v k}, (v, k) ∈ (m2.map fun p => (p.1, p.2 - n)) → (v, k + n) ∈ m2 ∧ Reach w x v := fun {v k} hk => by
    obtain ⟨q, hq, e⟩ := List.mem_map.mp hk
    simp only [Prod.mk.injEq] at e
    obtain ⟨e1, e2⟩ := e
    have : (v, k + n) = q := Prod.ext e1.symm (by simp only; omega)
    rw [this]
    exact ⟨hq, (re2 v).mp (by rw [← e1]; exact List.mem_map.mpr ⟨q, hq, rfl⟩)⟩
  have key : ∀ {v k}, (v, k) ∈ m → v ∈ m.map Prod.fst := fun h => List.mem_map.mpr ⟨_, h, rfl⟩
  refine ⟨⟨?_, fun v hv => ?_, fun v hv u hu => ?_, fun v k hk => ?_, fun v k u j hk hj hr => ?_, fun v hv => ?_⟩, dis⟩
  · rw [List.map_append, ek, List.nodup_append]
    exact ⟨h.nd, nd2, fun a ha b hb e => by subst e; exact dis a hb ha⟩
  · rw [List.map_append, ek] at hv
    rcases List.mem_append.mp hv with hv | hv
    · exact h.rg v hv
    · exact ((re2 v).mp hv).rg o hx
  · rw [List.map_append, ek] at hv ⊢
    rcases List.mem_append.mp hv with hv | hv
    · exact List.mem_append_left _ (h.cl v hv u hu)
    · exact List.mem_append_right _ ((re2 u).mpr (((re2 v).mp hv).trans hu))
  · rcases List.mem_append.mp hk with hk | hk
    · exact h.nn v k hk
    · have := mn.2 v _ (mem2 hk).1; omega
  · rcases List.mem_append.mp hk with hk | hk <;> rcases List.mem_append.mp hj with hj | hj
    · exact h.df v k u j hk hj hr
    · exact absurd (h.cl v (key hk) u hr) (dis u ((re2 u).mpr (mem2 hj).2))
    · exact absurd (h.cl u (key hj) v hr.symm) (dis v ((re2 v).mpr (mem2 hk).2))
    · have a := vl2 v _ (mem2 hk).1
      have b := vl2 u _ (mem2 hj).1
      omega
  · rw [List.map_append, ek] at hv
    rcases List.mem_append.mp hv with hv | hv
    · obtain ⟨u, h1, h2⟩ := h.zz v hv
      exact ⟨u, h1, List.mem_append_left _ h2⟩
    · obtain ⟨u, hu⟩ := mn.1
      exact ⟨u, ((re2 v).mp hv).symm.trans ((re2 u).mp (List.mem_map.mpr ⟨_, hu, rfl⟩)), List.mem_append_right _ (List.mem_map.mpr ⟨_, hu, by simp⟩)⟩
theorem OIv.norm {w : Web} (o : w.ok) {p q : List Int} {c : Int → Int} (f : Fit w p q c) (hp : isP w p) {m : List (Int × Int)} (h : OIv w c m) (all : ∀ x, 0 ≤ x → x < w.n → x ∈ m.map Prod.fst) : Norm w p q ((irng 0 w.n).map fun x => (m.lookup x).getD 0) := by
  have n1 := o.n1
  have hg : ∀ {x}, 0 ≤ x → x < w.n → (x, gI ((irng 0 w.n).map fun x => (m.lookup x).getD 0) x) ∈ m := fun {x} x0 x1 => by
    rw [gI_map x0 (by rw [ints_len]; omega), gI_irng x0 x1]
    cases e : m.lookup x with
    | none => exact absurd (all x x0 x1) (lookup_none.mp e)
    | some k => exact lookup_mem e
  refine ⟨by rw [List.length_map, ints_len]; omega, fun t ht => ?_, fun y hy => ?_, fun x x0 x1 => ?_⟩
  · have hr := arw_rg o t ht
    have := h.df _ _ _ _ (hg hr.1.1 hr.1.2) (hg hr.2.1 hr.2.2) (.step .refl (arw_T hp ht))
    rw [this]
    exact f t ht
  · obtain ⟨x, hx, rfl⟩ := List.mem_map.mp hy
    have hx := mem_ints.mp hx
    have := hg hx.1 hx.2
    rw [gI_map hx.1 (by rw [ints_len]; omega), gI_irng hx.1 hx.2] at this
    exact h.nn _ _ this
  · obtain ⟨u, h1, h2⟩ := h.zz x (all x x0 x1)
    refine ⟨u, h1, ?_⟩
    have hr := h1.rg o ⟨x0, x1⟩
    have := h.df _ _ _ _ (hg hr.1 hr.2) h2 .refl
    omega
end Lib
end G7

namespace G7
namespace Lib
open PySem
end Lib
end G7

namespace G7
namespace Lib
open PySem
end Lib
end G7

namespace G7
namespace Lib
open PySem
abbrev Kin (w : Web) (p q : List Int) : Prop := ∃ c, Fit w p q c
theorem Kin.refl {w : Web} {p : List Int} : Kin w p p := ⟨fun _ => 0, fun t ht => by unfold ind; rw [if_pos ht]; rfl⟩
theorem Kin.symm {w : Web} {p q : List Int} (hp : isP w p) (hq : isP w q) (ap : Acyc (arw w p)) (aq : Acyc (arw w q)) (h : Kin w p q) : Kin w q p := by
  obtain ⟨c, f⟩ := h
  exact ⟨fun x => - c x, fit_of hq fun z t => by have := fit_step hp hq ap aq f t; omega⟩
theorem Kin.trans {w : Web} {p q r : List Int} (hp : isP w p) (hq : isP w q) (hr : isP w r) (ap : Acyc (arw w p)) (aq : Acyc (arw w q)) (ar : Acyc (arw w r)) (h1 : Kin w p q) (h2 : Kin w q r) : Kin w p r := by
  obtain ⟨c, f⟩ := h1
  obtain ⟨d, g⟩ := h2
  exact ⟨fun x => c x + d x, fit_of hp fun z t => by have a := fit_step hp hq ap aq f t; have b := fit_step hq hr aq ar g t; omega⟩
theorem turnsGo_app {w : Web} : ∀ {a b p q}, turnsGo w p a = some q → turnsGo w p (a ++ b) = turnsGo w q b
  | [], b, p, q, h => by unfold turnsGo at h; cases h; rfl
  | k :: a, b, p, q, h => by
    unfold turnsGo at h
    split at h
    · next c =>
      rw [List.cons_append]
      conv => lhs; unfold turnsGo
      rw [if_pos c]
      exact turnsGo_app h
    · cases h
structure OW (w : Web) (p : List Int) (pre : List Int) (b : List Int) : Prop where
  isP : isP w b
  ac : Acyc (arw w b)
  fit : Fit w b p fun x => if x ∈ pre then -1 else 0
theorem OW.nil {w : Web} {p : List Int} (hp : Lib.isP w p) (ap : Acyc (arw w p)) : OW w p [] p := ⟨hp, ap, fun t ht => by unfold ind; rw [if_pos ht]; rfl⟩
theorem OW.step {w : Web} (o : w.ok) {p b pre : List Int} {x : Int} (h : OW w p pre b) (hp : Lib.isP w p) (ap : Acyc (arw w p)) (hs : x ∈ sprF w b) (hn : x ∉ pre) : OW w p (pre ++ [x]) (abtF w b x) :=
  ⟨abt_isP h.isP, spr_acyc o h.isP h.ac hs, (fit_turn h.isP hp h.ac ap h.fit hs).congr o fun y y0 y1 => by
    by_cases c : y = x
    · subst c; simp [hn]
    · simp [c]⟩
theorem OW.end {w : Web} (o : w.ok) {p b pre : List Int} (h : OW w p pre b) (hp : Lib.isP w p) (ap : Acyc (arw w p)) (all : ∀ x, 0 ≤ x → x < w.n → x ∈ pre) : b = p := same_arw h.isP hp ap fun t ht => by
  have hr := arw_rg o t ht
  have := h.fit t ht
  simp only at this
  rw [if_pos (all _ hr.1.1 hr.1.2), if_pos (all _ hr.2.1 hr.2.2)] at this
  unfold ind at this
  split at this
  · assumption
  · omega
/-- is_tied: slots 0 web:r, 1 a:r, 2 b:r; modes ['rd', 'rd', 'rd']; answer fz -/
def wb_is_tied (S_tie_of : FS) : WS :=
  (wRet (wOp2 inD (wCall S_tie_of (waCons (wVar 1) (waCons (wVar 2) waNil))) (wOp2 ixD (wVar 0) (wC (.int 1)))))
def S_is_tied : FS := fun _ _ => False
theorem m_is_tied {rk : RK} : ∀ ds Post, S_is_tied ds Post → wb_is_tied S_l_pair { nx := fun _ => Post .none ∧ rk = .fz, rt := fun d _ => Post d } (startE 3 ds) := fun _ _ h => h.elim
end Lib
end G7

set_option maxRecDepth 100000
namespace G7
open PySem PySem.Spec PyProof.Rows L2
end G7

namespace G7
namespace Lib
open PySem
abbrev tk (p : List Int) : List (Int ⊕ Str) := p.map .inl
theorem nodup_leG {α : Type} [DecidableEq α] {l m : List α} (h : l.Nodup) (s : ∀ x ∈ l, x ∈ m) : l.length ≤ m.length := by
  induction l generalizing m with
  | nil => simp
  | cons x l ih =>
    have h' := List.nodup_cons.mp h
    have hx : x ∈ m := s x (by simp)
    have := ih (m := m.erase x) h'.2 fun y hy => by
      have hne : y ≠ x := fun e => h'.1 (by rw [← e]; exact hy)
      exact (List.mem_erase_of_ne hne).mpr (s y (by simp [hy]))
    rw [List.length_erase_of_mem hx] at this
    have : 0 < m.length := List.length_pos_of_mem hx
    simp; omega
theorem Fit.symm {w : Web} {p q : List Int} {c : Int → Int} (hp : isP w p) (hq : isP w q) (ap : Acyc (arw w p)) (aq : Acyc (arw w q)) (f : Fit w p q c) : Fit w q p fun x => - c x :=
  fit_of hq fun z t => by have := fit_step hp hq ap aq f t; omega
theorem Fit.add {w : Web} {p q r : List Int} {c d : Int → Int} (hp : isP w p) (hq : isP w q) (hr : isP w r) (ap : Acyc (arw w p)) (aq : Acyc (arw w q)) (ar : Acyc (arw w r)) (f : Fit w p q c) (g : Fit w q r d) : Fit w p r fun x => c x + d x :=
  fit_of hp fun z t => by have a := fit_step hp hq ap aq f t; have b := fit_step hq hr aq ar g t; omega
theorem least_ex (c : Int → Int) : ∀ {L : List Int}, L ≠ [] → ∃ y ∈ L, ∀ z ∈ L, c y ≤ c z
  | [], h => absurd rfl h
  | [x], _ => ⟨x, by simp, by simp⟩
  | x :: y :: L, _ => by
    obtain ⟨m, h1, h2⟩ := least_ex c (L := y :: L) (by simp)
    by_cases e : c x ≤ c m
    · refine ⟨x, by simp, fun z hz => ?_⟩
      rcases List.mem_cons.mp hz with rfl | hz
      · omega
      · have := h2 z hz; omega
    · refine ⟨m, List.mem_cons_of_mem _ h1, fun z hz => ?_⟩
      rcases List.mem_cons.mp hz with rfl | hz
      · omega
      · exact h2 z hz
open Classical in
theorem norm_ex {w : Web} (o : w.ok) {p q : List Int} (hp : isP w p) {c : Int → Int} (f : Fit w p q c) : ∃ l, Norm w p q l := by
  have n1 := o.n1
  have key : ∀ x, ∃ y, 0 ≤ x → x < w.n → Reach w x y ∧ ∀ z, Reach w x z → c y ≤ c z := fun x => by
    by_cases hx : 0 ≤ x ∧ x < w.n
    · have hne : (irng 0 w.n).filter (fun y => decide (Reach w x y)) ≠ [] := List.ne_nil_of_mem (a := x) (List.mem_filter.mpr ⟨mem_ints.mpr hx, by simpa using Reach.refl⟩)
      obtain ⟨y, h1, h2⟩ := least_ex c hne
      refine ⟨y, fun _ _ => ⟨by simpa using (List.mem_filter.mp h1).2, fun z hz => h2 z (List.mem_filter.mpr ⟨mem_ints.mpr (hz.rg o hx), by simpa using hz⟩)⟩⟩
    · exact ⟨x, fun a b => absurd ⟨a, b⟩ hx⟩
  obtain ⟨m, hm⟩ := Classical.skolem.mp key
  have hg : ∀ x, 0 ≤ x → x < w.n → gI ((irng 0 w.n).map fun x => c x - c (m x)) x = c x - c (m x) := fun x x0 x1 => by
    rw [gI_map x0 (by rw [ints_len]; omega), gI_irng x0 x1]
  refine ⟨(irng 0 w.n).map fun x => c x - c (m x), by rw [List.length_map, ints_len]; omega, fun t ht => ?_, fun y hy => ?_, fun x x0 x1 => ?_⟩
  · have hr := arw_rg o t ht
    rw [hg _ hr.1.1 hr.1.2, hg _ hr.2.1 hr.2.2]
    have r1 : Reach w t.1 t.2 := .step .refl (arw_T hp ht)
    obtain ⟨a1, a2⟩ := hm t.1 hr.1.1 hr.1.2
    obtain ⟨b1, b2⟩ := hm t.2 hr.2.1 hr.2.2
    have e1 := a2 _ (r1.trans b1)
    have e2 := b2 _ (r1.symm.trans a1)
    have := f t ht
    omega
  · obtain ⟨x, hx, rfl⟩ := List.mem_map.mp hy
    have hx := mem_ints.mp hx
    have := (hm x hx.1 hx.2).2 x .refl
    omega
  · obtain ⟨a1, a2⟩ := hm x x0 x1
    refine ⟨m x, a1, ?_⟩
    have hr := a1.rg o ⟨x0, x1⟩
    rw [hg _ hr.1 hr.2]
    obtain ⟨b1, b2⟩ := hm (m x) hr.1 hr.2
    have := a2 _ (a1.trans b1)
    have := b2 _ .refl
    omega
theorem kin_row {w : Web} (o : w.ok) {p q : List Int} (hp : isP w p) (hq : isP w q) (ap : Acyc (arw w p)) (aq : Acyc (arw w q)) (h : Kin w p q) : ∃ row, turnsGo w p row = some q := by
  obtain ⟨c, f⟩ := h
  obtain ⟨l, hl⟩ := norm_ex o hp f
  exact ⟨_, (row_ok o hq aq hp ap hl.len hl.fit hl.nn (m := (sumI l).toNat) rfl).1⟩
theorem go_fit {w : Web} (o : w.ok) : ∀ {row p q : List Int}, isP w p → Acyc (arw w p) → turnsGo w p row = some q → isP w q ∧ Acyc (arw w q) ∧ Fit w p q (fun v => (row.count v : Int)) ∧ ∀ v ∈ row, 0 ≤ v ∧ v < w.n
  | [], p, q, hp, ap, h => by
    unfold turnsGo at h
    cases h
    exact ⟨hp, ap, fun t ht => by unfold ind; rw [if_pos ht]; simp, by simp⟩
  | v :: vs, p, q, hp, ap, h => by
    unfold turnsGo at h
    split at h
    · next c =>
      have hp2 := abt_isP (q := v) hp
      have ap2 := spr_acyc o hp ap c
      obtain ⟨i1, i2, i3, i4⟩ := go_fit o hp2 ap2 h
      refine ⟨i1, i2, ?_, fun u hu => ?_⟩
      · have f0 := fit_turn hp hp ap ap (c := fun _ => 0) (fun t ht => by unfold ind; rw [if_pos ht]; rfl) c
        have f1 := f0.symm hp2 hp ap2 ap
        refine (f1.add hp hp2 i1 ap ap2 i2 i3).congr o fun x _ _ => ?_
        rw [List.count_cons]
        by_cases e : x = v
        · subst e; simp; omega
        · have e2 : (v == x) = false := by simpa using fun z => e z.symm
          rw [if_neg e, e2]; simp
      · rcases List.mem_cons.mp hu with rfl | hu
        · exact (spr_mem.mp c).1
        · exact i4 u hu
    · cases h
theorem count_sum {n : Int} : ∀ {row : List Int}, (∀ v ∈ row, 0 ≤ v ∧ v < n) → sumI ((irng 0 n).map fun v => (row.count v : Int)) = row.length
  | [], _ => sumI_zero fun x hx => by obtain ⟨v, _, rfl⟩ := List.mem_map.mp hx; simp
  | u :: row, h => by
    have ih := count_sum (row := row) fun v hv => h v (List.mem_cons_of_mem _ hv)
    have e : (irng 0 n).map (fun v => ((u :: row).count v : Int)) = (irng 0 n).map fun v => (row.count v : Int) - (if v = u then -1 else 0) := List.map_congr_left fun v _ => by
      rw [List.count_cons]
      by_cases c : v = u
      · subst c; simp
      · have e2 : (u == v) = false := by simpa using fun z => c z.symm
        rw [if_neg c, e2]; simp
    rw [e, sumI_sub (fun v => (row.count v : Int)) (fun v => if v = u then -1 else 0), ih, List.length_cons]
    have : ∀ {L : List Int}, L.Nodup → u ∈ L → sumI (L.map fun v => if v = u then (-1 : Int) else 0) = -1 := fun {L} nd hu => by
      induction L with
      | nil => simp at hu
      | cons x L ihL =>
        rw [List.nodup_cons] at nd
        rw [List.map_cons, sumI_cons]
        by_cases c : x = u
        · subst c
          rw [if_pos rfl, sumI_zero fun y hy => ?_]
          · rfl
          · obtain ⟨v, hv, rfl⟩ := List.mem_map.mp hy
            rw [if_neg fun z => nd.1 (by rw [← z]; exact hv)]
        · rw [if_neg c, ihL nd.2 (by rcases List.mem_cons.mp hu with e | e; exact absurd e.symm c; exact e)]; rfl
    rw [this ((ints_sorted _ _).imp fun h => by omega) (mem_ints.mpr (h u List.mem_cons_self))]
    omega
theorem sumI_mono {α : Type} {f g : α → Int} : ∀ {L : List α}, (∀ x ∈ L, f x ≤ g x) → sumI (L.map f) ≤ sumI (L.map g)
  | [], _ => Int.le_refl _
  | x :: L, h => by
    have := h x List.mem_cons_self
    have := sumI_mono (L := L) fun y hy => h y (List.mem_cons_of_mem _ hy)
    rw [List.map_cons, List.map_cons, sumI_cons, sumI_cons]
    omega
/-- no way of turned springs is shorter than the least numbers -/
theorem norm_least {w : Web} (o : w.ok) {p q l row : List Int} (hp : isP w p) (hq : isP w q) (ap : Acyc (arw w p)) (aq : Acyc (arw w q)) (h : Norm w p q l) (hr : turnsGo w p row = some q) : sumI l ≤ row.length := by
  have n1 := o.n1
  obtain ⟨_, _, f, rg⟩ := go_fit o hp ap hr
  rw [← count_sum rg]
  have hl := h.len
  have el : l = (irng 0 w.n).map fun v => gI l v := by
    refine List.ext_getElem (by rw [List.length_map, ints_len]; omega) fun i h1 h2 => ?_
    rw [List.getElem_map]
    have : (irng 0 w.n)[i]'(by rw [ints_len]; omega) = (i : Int) := by
      have := ints_get (lo := 0) (hi := w.n) (k := i) (by omega)
      rw [List.getElem?_eq_getElem (by rw [ints_len]; omega)] at this
      have := Option.some.inj this
      omega
    rw [this]
    unfold gI
    rw [Int.toNat_natCast, getElem!_pos l i h1]
  rw [el]
  refine sumI_mono fun x hx => ?_
  have hx := mem_ints.mp hx
  obtain ⟨y, hy, hy0⟩ := h.z x hx.1 hx.2
  have dif : ∀ {u v}, Reach w u v → gI l u - (row.count u : Int) = gI l v - (row.count v : Int) := fun r => by
    induction r with
    | refl => rfl
    | step _ t ih =>
      have a := fit_step hp hq ap aq h.fit (z := (_, _)) t
      have b := fit_step hp hq ap aq f (z := (_, _)) t
      simp only at a b
      omega
  have := dif hy
  omega
end Lib
end G7

set_option maxRecDepth 100000
namespace G7
open PySem PySem.Spec PyProof.Rows L2
def IsTupI (h : Heap) (v : Value) (ns : List Int) : Prop := ∃ a o its n, v = .ref a ∧ h.get? a = some o ∧ o.cls = .type "tuple" ∧ o.data = .seq its n ∧ IntsAre its.toList ns
theorem IsTupI.keeps {h h' : Heap} {v : Value} {ns : List Int} (p : IsTupI h v ns) (k : ∀ b o, h.get? b = some o → o.cls = .type "tuple" → h'.get? b = some o) : IsTupI h' v ns := by
  obtain ⟨a, o, its, n, e, ho, hc, hd, hi⟩ := p
  exact ⟨a, o, its, n, e, k a o ho hc, hc, hd, hi⟩
def leT (a b : List Int) : Prop := HT.lexLt b a = false
instance (a b : List Int) : Decidable (leT a b) := by unfold leT; exact inferInstance
def insT (x : List Int) : List (List Int) → List (List Int)
  | [] => [x]
  | y :: l => if leT x y then x :: y :: l else y :: insT x l
def tsort : List (List Int) → List (List Int)
  | [] => []
  | x :: l => insT x (tsort l)
theorem insT_perm (x : List Int) : ∀ l : List (List Int), (insT x l).Perm (x :: l)
  | [] => List.Perm.refl _
  | y :: l => by
    unfold insT
    split
    · exact List.Perm.refl _
    · exact ((insT_perm x l).cons y).trans (List.Perm.swap x y l)
theorem tsort_perm : ∀ l : List (List Int), (tsort l).Perm l
  | [] => List.Perm.refl _
  | x :: l => (insT_perm x _).trans ((tsort_perm l).cons x)
end G7

set_option maxRecDepth 100000
namespace G7
open PySem
namespace Lib
def tb (m b : Int) : Bool := m.toNat.testBit b.toNat
theorem bitNot_bitNot (x : Int) : Builtin.bitNot (Builtin.bitNot x) = x := by unfold Builtin.bitNot; omega
theorem or_nn {a b : Int} (ha : 0 ≤ a) (hb : 0 ≤ b) : Builtin.bitOr a b = ((a.toNat ||| b.toNat : Nat) : Int) := by
  have h1 : ¬ 0 ≤ Builtin.bitNot a := by unfold Builtin.bitNot; omega
  have h2 : ¬ 0 ≤ Builtin.bitNot b := by unfold Builtin.bitNot; omega
  unfold Builtin.bitOr Builtin.bitAnd
  rw [decide_eq_false h1, decide_eq_false h2]
  simp only [bitNot_bitNot]
theorem or_pos {a b : Int} (ha : 0 ≤ a) (hb : 0 ≤ b) : 0 ≤ Builtin.bitOr a b := by rw [or_nn ha hb]; omega
theorem tb_or {a b i : Int} (ha : 0 ≤ a) (hb : 0 ≤ b) : tb (Builtin.bitOr a b) i = (tb a i || tb b i) := by
  rw [or_nn ha hb]
  unfold tb
  rw [Int.toNat_natCast, Nat.testBit_or]
theorem tb_pow {e i : Int} (he : 0 ≤ e) (hi : 0 ≤ i) : tb (2 ^ e.toNat) i = decide (i = e) := by
  unfold tb
  have : ((2 : Int) ^ e.toNat).toNat = 2 ^ e.toNat := by
    have h : ((2 : Int) ^ e.toNat) = ((2 ^ e.toNat : Nat) : Int) := by simp
    rw [h, Int.toNat_natCast]
  rw [this, Nat.testBit_two_pow]
  exact decide_eq_decide.mpr (by omega)
theorem pow_nn (e : Nat) : (0 : Int) ≤ 2 ^ e := by have : (0 : Int) < 2 ^ e := Int.pow_pos (by omega); omega
theorem tb_zero (i : Int) : tb 0 i = false := by unfold tb; simp
def moreF (rs : List Int) (e : Int) : Int := Builtin.bitOr (gI rs e) (2 ^ e.toNat)
def ledF (rs : List Int) (b e : Int) : List Int := (enumL rs).map fun z => if z.1 = b ∨ tb z.2 b = true then Builtin.bitOr z.2 (moreF rs e) else z.2
theorem enum_len {α : Type} (l : List α) : (enumL l).length = l.length := by
  unfold enumL
  rw [List.length_zip, ints_len]; omega
theorem led_len (rs : List Int) (b e : Int) : (ledF rs b e).length = rs.length := by unfold ledF; rw [List.length_map, enum_len]
theorem enum_get {α : Type} [Inhabited α] {l : List α} {i : Nat} (h : i < l.length) : (enumL l)[i]'(by rw [enum_len]; exact h) = ((i : Int), l[i]!) := by
  have e1 : (irng 0 (l.length : Int))[i]'(by rw [ints_len]; omega) = (i : Int) := by simp [irng]
  unfold enumL
  rw [List.getElem_zip, e1, getElem!_pos l i h]
theorem led_gI {rs : List Int} {b e x : Int} (h0 : 0 ≤ x) (h1 : x < (rs.length : Int)) : gI (ledF rs b e) x = if x = b ∨ tb (gI rs x) b = true then Builtin.bitOr (gI rs x) (moreF rs e) else gI rs x := by
  have hx : x.toNat < rs.length := by omega
  have e1 : gI (ledF rs b e) x = (ledF rs b e)[x.toNat]'(by rw [led_len]; exact hx) := getElem!_pos _ _ _
  rw [e1]
  unfold ledF
  rw [List.getElem_map, enum_get hx]
  rw [show ((x.toNat : Nat) : Int) = x by omega]
theorem gI_nn {rs : List Int} (h : ∀ x ∈ rs, 0 ≤ x) {i : Int} (h0 : 0 ≤ i) (h1 : i < (rs.length : Int)) : 0 ≤ gI rs i := h _ (gI_mem h0 h1)
theorem more_nn {rs : List Int} (h : ∀ x ∈ rs, 0 ≤ x) {e : Int} (h0 : 0 ≤ e) (h1 : e < (rs.length : Int)) : 0 ≤ moreF rs e := or_pos (gI_nn h h0 h1) (pow_nn _)
theorem led_nn {rs : List Int} (h : ∀ x ∈ rs, 0 ≤ x) {b e : Int} (h0 : 0 ≤ e) (h1 : e < (rs.length : Int)) : ∀ x ∈ ledF rs b e, 0 ≤ x := fun x hx => by
  obtain ⟨z, hz, rfl⟩ := List.mem_map.mp hx
  have hz2 := h _ (mem_enumL hz).2.2.2
  split
  · exact or_pos hz2 (more_nn h h0 h1)
  · exact hz2
abbrev PR := List Int × List Int
def waysT (a b : Int) : List (Int × Int × Int) := [(0, b, a), (1, a, b)]
def growF (L : List PR) (a b : Int) : List PR := L.flatMap fun z => ((waysT a b).filter fun y => !tb (gI z.2 y.2.2) y.2.1).map fun y => (z.1 ++ [y.1], ledF z.2 y.2.1 y.2.2)
end Lib
end G7

set_option maxRecDepth 100000
set_option maxHeartbeats 4000000
namespace G7
open PySem PySem.Spec PyProof.Rows L2
end G7

set_option maxRecDepth 100000
namespace G7
open PySem
namespace Lib
theorem way_add {ls : Ar} {b e : Int} {x y : Int} : Way (ls ++ [(b, e)]) x y ↔ Way ls x y ∨ (Way ls x b ∧ Way ls e y) := by
  constructor
  · intro h
    induction h with
    | nil => exact .inl .nil
    | snoc _ a ih =>
      rcases List.mem_append.mp a with a | a
      · rcases ih with ih | ⟨h1, h2⟩
        · exact .inl (.snoc ih a)
        · exact .inr ⟨h1, .snoc h2 a⟩
      · simp at a; obtain ⟨rfl, rfl⟩ := a
        rcases ih with ih | ⟨h1, h2⟩
        · exact .inr ⟨ih, .nil⟩
        · exact .inr ⟨h1, .nil⟩
  · have up : ∀ {a c}, Way ls a c → Way (ls ++ [(b, e)]) a c := fun h => h.more fun t ht => List.mem_append_left _ ht
    rintro (h | ⟨h1, h2⟩)
    · exact up h
    · exact (Way.snoc (up h1) (List.mem_append_right _ (by simp))).trans (up h2)
theorem acyc_add {ls : Ar} {b e : Int} : Acyc (ls ++ [(b, e)]) ↔ Acyc ls ∧ ¬ Way ls e b := by
  constructor
  · intro h
    refine ⟨h.sub fun t ht => List.mem_append_left _ ht, fun g => ?_⟩
    exact h.noway (a := e) (b := b) (List.mem_append_right _ (by simp)) (g.more fun t ht => List.mem_append_left _ ht)
  · rintro ⟨h, n⟩
    exact (h.add n).sub fun t ht => by
      rcases List.mem_append.mp ht with c | c
      · exact List.mem_cons_of_mem _ c
      · simp at c; subst c; exact List.mem_cons_self
theorem arw_snoc {n : Int} {ts : List (Int × Int)} {t : Int × Int} {p : List Int} {x : Int} (h : p.length = ts.length) : arw ⟨n, ts ++ [t]⟩ (p ++ [x]) = arw ⟨n, ts⟩ p ++ [if x = 1 then t else (t.2, t.1)] := by
  unfold arw
  rw [List.zipWith_append h.symm]; rfl
theorem isP_snoc {n : Int} {ts : List (Int × Int)} {t : Int × Int} {q : List Int} : isP ⟨n, ts ++ [t]⟩ q ↔ ∃ p x, q = p ++ [x] ∧ isP ⟨n, ts⟩ p ∧ (x = 0 ∨ x = 1) := by
  constructor
  · rintro ⟨h1, h2⟩
    have hne : q ≠ [] := fun c => by subst c; simp at h1
    refine ⟨q.dropLast, q.getLast hne, (List.dropLast_concat_getLast hne).symm, ⟨?_, fun x hx => h2 x (List.dropLast_subset _ hx)⟩, h2 _ (List.getLast_mem hne)⟩
    have h1 : q.length = (ts ++ [t]).length := h1
    rw [List.length_append, List.length_singleton] at h1
    show q.dropLast.length = ts.length
    rw [List.length_dropLast]; omega
  · rintro ⟨p, x, rfl, ⟨h1, h2⟩, h3⟩
    refine ⟨?_, fun y hy => ?_⟩
    · have h1 : p.length = ts.length := h1
      show (p ++ [x]).length = (ts ++ [t]).length
      simp [h1]
    · rcases List.mem_append.mp hy with hy | hy
      · exact h2 y hy
      · simp at hy; subst hy; exact h3
structure AF (n : Int) (ts : List (Int × Int)) (L : List PR) : Prop where
  mem : ∀ p, p ∈ L.map Prod.fst ↔ isP ⟨n, ts⟩ p ∧ Acyc (arw ⟨n, ts⟩ p)
  nd : (L.map Prod.fst).Nodup
  rf : ∀ z ∈ L, (z.2.length : Int) = n ∧ (∀ x ∈ z.2, 0 ≤ x) ∧ ∀ x y, 0 ≤ x → x < n → 0 ≤ y → y < n → (tb (gI z.2 x) y = true ↔ x ≠ y ∧ Way (arw ⟨n, ts⟩ z.1) x y)
def growA (n : Int) (ts : List (Int × Int)) : List PR := ts.foldl (fun L t => growF L t.1 t.2) [([], List.replicate n.toNat 0)]
theorem way_nil {x y : Int} (h : Way [] x y) : x = y := by
  induction h with
  | nil => rfl
  | snoc _ a _ => simp at a
theorem AF.start {n : Int} (n0 : 0 ≤ n) : AF n [] [([], List.replicate n.toNat 0)] := by
  refine ⟨fun p => ?_, by simp, fun z hz => ?_⟩
  · simp only [List.map_cons, List.map_nil, List.mem_singleton]
    constructor
    · rintro rfl
      exact ⟨⟨rfl, by simp⟩, ⟨fun _ => 0, by intro t ht; simp [arw] at ht⟩⟩
    · rintro ⟨⟨h1, _⟩, _⟩
      exact List.length_eq_zero_iff.mp h1
  · simp only [List.mem_singleton] at hz
    subst hz
    refine ⟨by simp; omega, fun x hx => by rw [List.eq_of_mem_replicate hx]; exact Int.le_refl _, fun x y h0 h1 h2 h3 => ?_⟩
    have e : gI (List.replicate n.toNat 0) x = 0 := by
      unfold gI
      rw [getElem!_pos _ _ (by rw [List.length_replicate]; omega), List.getElem_replicate]
    simp only [e, tb_zero]
    constructor
    · intro c; cases c
    · rintro ⟨ne, h⟩
      exact absurd (way_nil (show Way [] x y by simpa [arw] using h)) ne
theorem waysT_mem {a b : Int} {y : Int × Int × Int} (h : y ∈ waysT a b) : (y.1 = 0 ∨ y.1 = 1) ∧ (if y.1 = 1 then (a, b) else (b, a)) = (y.2.1, y.2.2) ∧ ((y.2.1 = a ∧ y.2.2 = b) ∨ (y.2.1 = b ∧ y.2.2 = a)) := by
  simp only [waysT, List.mem_cons, List.not_mem_nil, or_false] at h
  rcases h with rfl | rfl
  · exact ⟨.inl rfl, rfl, .inr ⟨rfl, rfl⟩⟩
  · exact ⟨.inr rfl, rfl, .inl ⟨rfl, rfl⟩⟩
theorem grow_mem {L : List PR} {a b : Int} {z' : PR} : z' ∈ growF L a b ↔ ∃ z ∈ L, ∃ y ∈ waysT a b, tb (gI z.2 y.2.2) y.2.1 = false ∧ z' = (z.1 ++ [y.1], ledF z.2 y.2.1 y.2.2) := by
  unfold growF
  rw [List.mem_flatMap]
  constructor
  · rintro ⟨z, hz, h⟩
    obtain ⟨y, hy, rfl⟩ := List.mem_map.mp h
    obtain ⟨h1, h2⟩ := List.mem_filter.mp hy
    exact ⟨z, hz, y, h1, by simpa using h2, rfl⟩
  · rintro ⟨z, hz, y, hy, h, rfl⟩
    exact ⟨z, hz, List.mem_map.mpr ⟨y, List.mem_filter.mpr ⟨hy, by simpa using h⟩, rfl⟩⟩
theorem AF.step {n : Int} {ts : List (Int × Int)} {L : List PR} (h : AF n ts L) {t : Int × Int} (ha : 0 ≤ t.1 ∧ t.1 < n) (hb : 0 ≤ t.2 ∧ t.2 < n) (ne : t.1 ≠ t.2) : AF n (ts ++ [t]) (growF L t.1 t.2) := by
  have lenp : ∀ z ∈ L, z.1.length = ts.length := fun z hz => ((h.mem z.1).mp (List.mem_map.mpr ⟨z, hz, rfl⟩)).1.1
  have arwz : ∀ z ∈ L, ∀ y ∈ waysT t.1 t.2, arw ⟨n, ts ++ [t]⟩ (z.1 ++ [y.1]) = arw ⟨n, ts⟩ z.1 ++ [(y.2.1, y.2.2)] := fun z hz y hy => by
    rw [arw_snoc (lenp z hz), ← (waysT_mem hy).2.1]
  have key : ∀ z ∈ L, ∀ y ∈ waysT t.1 t.2, (tb (gI z.2 y.2.2) y.2.1 = false ↔ ¬ Way (arw ⟨n, ts⟩ z.1) y.2.2 y.2.1) := fun z hz y hy => by
    obtain ⟨_, _, h3⟩ := waysT_mem hy
    have hr : (0 ≤ y.2.1 ∧ y.2.1 < n) ∧ (0 ≤ y.2.2 ∧ y.2.2 < n) ∧ y.2.2 ≠ y.2.1 := by
      rcases h3 with ⟨e1, e2⟩ | ⟨e1, e2⟩ <;> rw [e1, e2]
      · exact ⟨ha, hb, Ne.symm ne⟩
      · exact ⟨hb, ha, ne⟩
    have := (h.rf z hz).2.2 y.2.2 y.2.1 hr.2.1.1 hr.2.1.2 hr.1.1 hr.1.2
    rw [← Bool.not_eq_true, this]
    constructor
    · intro c d; exact c ⟨hr.2.2, d⟩
    · rintro c ⟨_, d⟩; exact c d
  refine ⟨fun p => ?_, ?_, fun z' hz' => ?_⟩
  · rw [isP_snoc, List.mem_map]
    constructor
    · rintro ⟨z', hz', rfl⟩
      obtain ⟨z, hz, y, hy, hc, rfl⟩ := grow_mem.mp hz'
      obtain ⟨h1, h2⟩ := (h.mem z.1).mp (List.mem_map.mpr ⟨z, hz, rfl⟩)
      refine ⟨⟨z.1, y.1, rfl, h1, (waysT_mem hy).1⟩, ?_⟩
      simp only
      rw [arwz z hz y hy]
      exact acyc_add.mpr ⟨h2, (key z hz y hy).mp hc⟩
    · rintro ⟨⟨q, x, rfl, hq, hx⟩, ac⟩
      have hqa : Acyc (arw ⟨n, ts⟩ q) := ac.sub fun s hs => by rw [arw_snoc hq.1]; exact List.mem_append_left _ hs
      obtain ⟨z, hz, rfl⟩ := List.mem_map.mp ((h.mem q).mpr ⟨hq, hqa⟩)
      obtain ⟨y, hy, e⟩ : ∃ y ∈ waysT t.1 t.2, y.1 = x := by
        rcases hx with rfl | rfl
        · exact ⟨(0, t.2, t.1), by simp [waysT], rfl⟩
        · exact ⟨(1, t.1, t.2), by simp [waysT], rfl⟩
      subst e
      rw [arwz z hz y hy] at ac
      exact ⟨_, grow_mem.mpr ⟨z, hz, y, hy, (key z hz y hy).mpr (acyc_add.mp ac).2, rfl⟩, rfl⟩
  · have e : (growF L t.1 t.2).map Prod.fst = L.flatMap fun z => ((waysT t.1 t.2).filter fun y => !tb (gI z.2 y.2.2) y.2.1).map fun y => z.1 ++ [y.1] := by
      unfold growF
      rw [List.map_flatMap]
      congr 1
      funext z
      rw [List.map_map]; rfl
    rw [e]
    unfold List.Nodup
    rw [List.pairwise_flatMap]
    constructor
    · intro z hz
      rw [List.pairwise_map]
      refine List.Pairwise.filter _ ?_
      simp [waysT]
    · have := h.nd
      unfold List.Nodup at this
      rw [List.pairwise_map] at this
      refine this.imp ?_
      intro z z2 hne u hu v hv e
      obtain ⟨y, _, rfl⟩ := List.mem_map.mp hu
      obtain ⟨y2, _, rfl⟩ := List.mem_map.mp hv
      exact hne (List.append_inj' e rfl).1
  · obtain ⟨z, hz, y, hy, hc, rfl⟩ := grow_mem.mp hz'
    obtain ⟨h1, h2, h3⟩ := h.rf z hz
    obtain ⟨_, _, h4⟩ := waysT_mem hy
    have hr : (0 ≤ y.2.1 ∧ y.2.1 < n) ∧ (0 ≤ y.2.2 ∧ y.2.2 < n) := by
      rcases h4 with ⟨e1, e2⟩ | ⟨e1, e2⟩ <;> rw [e1, e2]
      · exact ⟨ha, hb⟩
      · exact ⟨hb, ha⟩
    have nw := (key z hz y hy).mp hc
    refine ⟨by simp only [led_len]; exact h1, fun x hx => led_nn h2 hr.2.1 (by omega) x hx, fun u v u0 u1 v0 v1 => ?_⟩
    simp only
    rw [arwz z hz y hy, led_gI u0 (by omega), way_add]
    have g0 := gI_nn h2 u0 (by omega)
    have m0 := more_nn h2 hr.2.1 (by omega)
    have e0 := gI_nn h2 hr.2.1 (by omega)
    have f1 := h3 u v u0 u1 v0 v1
    have f2 := h3 u y.2.1 u0 u1 hr.1.1 hr.1.2
    have f3 := h3 y.2.2 v hr.2.1 hr.2.2 v0 v1
    have wub : (u = y.2.1 ∨ tb (gI z.2 u) y.2.1 = true) ↔ Way (arw ⟨n, ts⟩ z.1) u y.2.1 := by
      rw [f2]
      constructor
      · rintro (rfl | ⟨_, c⟩)
        · exact .nil
        · exact c
      · intro c
        by_cases e : u = y.2.1
        · exact .inl e
        · exact .inr ⟨e, c⟩
    have mv : tb (moreF z.2 y.2.2) v = true ↔ Way (arw ⟨n, ts⟩ z.1) y.2.2 v := by
      unfold moreF
      rw [tb_or e0 (pow_nn _), tb_pow hr.2.1 v0, Bool.or_eq_true, decide_eq_true_eq, f3]
      constructor
      · rintro (⟨_, c⟩ | rfl)
        · exact c
        · exact .nil
      · intro c
        by_cases e : v = y.2.2
        · exact .inr e
        · exact .inl ⟨Ne.symm e, c⟩
    by_cases c : u = y.2.1 ∨ tb (gI z.2 u) y.2.1 = true
    · rw [if_pos c, tb_or g0 m0, Bool.or_eq_true, f1, mv]
      have wc := wub.mp c
      constructor
      · rintro (⟨hne, hw⟩ | hw)
        · exact ⟨hne, .inl hw⟩
        · refine ⟨fun e => ?_, .inr ⟨wc, hw⟩⟩
          subst e
          exact nw (hw.trans wc)
      · rintro ⟨hne, hw | ⟨_, hw⟩⟩
        · exact .inl ⟨hne, hw⟩
        · exact .inr hw
    · rw [if_neg c, f1]
      have wc : ¬ Way (arw ⟨n, ts⟩ z.1) u y.2.1 := fun d => c (wub.mpr d)
      constructor
      · rintro ⟨hne, hw⟩; exact ⟨hne, .inl hw⟩
      · rintro ⟨hne, hw | ⟨d, _⟩⟩
        · exact ⟨hne, hw⟩
        · exact absurd d wc
theorem growA_af {n : Int} (n0 : 0 ≤ n) : ∀ {ts : List (Int × Int)}, (∀ t ∈ ts, (0 ≤ t.1 ∧ t.1 < n) ∧ (0 ≤ t.2 ∧ t.2 < n) ∧ t.1 ≠ t.2) → AF n ts (growA n ts) := by
  intro ts
  have key : ∀ (post pre : List (Int × Int)) (L : List PR), (∀ t ∈ post, (0 ≤ t.1 ∧ t.1 < n) ∧ (0 ≤ t.2 ∧ t.2 < n) ∧ t.1 ≠ t.2) → AF n pre L → AF n (pre ++ post) (post.foldl (fun L t => growF L t.1 t.2) L) := by
    intro post
    induction post with
    | nil => intro pre L _ h; rw [List.append_nil]; exact h
    | cons t post ih =>
      intro pre L hr h
      have ht := hr t (by simp)
      have := ih (pre ++ [t]) (growF L t.1 t.2) (fun s hs => hr s (by simp [hs])) (h.step ht.1 ht.2.1 ht.2.2)
      rw [List.append_assoc] at this
      exact this
  intro hr
  exact key ts [] _ hr (AF.start n0)
theorem ties_rg {w : Web} (o : w.ok) : ∀ t ∈ w.ts, (0 ≤ t.1 ∧ t.1 < w.n) ∧ (0 ≤ t.2 ∧ t.2 < w.n) ∧ t.1 ≠ t.2 := fun t ht => by
  have := o.rg t ht
  omega
/-- all falls, sorted -/
def fallsL (w : Web) : List (List Int) := tsort ((growA w.n w.ts).map Prod.fst)
theorem fallsL_mem {w : Web} (o : w.ok) {p : List Int} : p ∈ fallsL w ↔ isP w p ∧ Acyc (arw w p) := by
  have n1 := o.n1
  unfold fallsL
  rw [(tsort_perm _).mem_iff]
  exact (growA_af (by omega) (ties_rg o)).mem p
theorem fallsL_nd {w : Web} (o : w.ok) : (fallsL w).Nodup := by
  have n1 := o.n1
  exact (tsort_perm _).nodup_iff.mpr (growA_af (by omega) (ties_rg o)).nd
end Lib
end G7

namespace G7
namespace Lib
open PySem
section
variable {α β : Type} [BEq β] [LawfulBEq β]
theorem lookG_mem {m : List (β × α)} {k : β} {v : α} (h : m.lookup k = some v) : (k, v) ∈ m := by
  induction m with
  | nil => simp at h
  | cons t m ih =>
    obtain ⟨a, b⟩ := t
    rw [List.lookup_cons] at h
    split at h
    · next e => cases h; simp at e; subst e; exact List.mem_cons_self
    · exact List.mem_cons_of_mem _ (ih h)
theorem lookG_none {m : List (β × α)} {k : β} : m.lookup k = none ↔ k ∉ m.map Prod.fst := by
  induction m with
  | nil => simp
  | cons t m ih =>
    obtain ⟨a, b⟩ := t
    rw [List.lookup_cons, List.map_cons, List.mem_cons]
    split
    · next e => simp at e; subst e; simp
    · next e =>
      have : k ≠ a := by simpa using e
      rw [ih]; simp [this]
theorem lookG_nd {m : List (β × α)} (nd : (m.map Prod.fst).Nodup) {k : β} {v : α} (h : (k, v) ∈ m) : m.lookup k = some v := by
  cases q : m.lookup k with
  | none => exact absurd (List.mem_map.mpr ⟨_, h, rfl⟩) (lookG_none.mp q)
  | some u =>
    have h2 := lookG_mem q
    have : u = v := by
      induction m with
      | nil => simp at h
      | cons t m ih =>
        rw [List.map_cons, List.nodup_cons] at nd
        rcases List.mem_cons.mp h with rfl | h3 <;> rcases List.mem_cons.mp h2 with e | h4
        · simpa using congrArg Prod.snd e
        · exact absurd (List.mem_map.mpr ⟨_, h4, rfl⟩) nd.1
        · exact absurd (List.mem_map.mpr ⟨_, h3, by rw [← e]⟩) nd.1
        · refine ih nd.2 h3 ?_ h4
          rw [List.lookup_cons] at q
          split at q
          · next e => simp at e; subst e; exact absurd (List.mem_map.mpr ⟨_, h3, rfl⟩) nd.1
          · exact q
    rw [this]
end
abbrev FM := List (List Int × Int)
structure BO (w : Web) (p0 : List Int) (m : FM) (i : Nat) : Prop where
  nd : (m.map Prod.fst).Nodup
  st : (p0, 0) ∈ m
  ok : ∀ q k, (q, k) ∈ m → ∃ row, turnsGo w p0 row = some q ∧ (row.length : Int) = k
  mo : m.Pairwise fun a b => a.2 ≤ b.2
  la : ∀ h, m[i]? = some h → ∀ t ∈ m, t.2 ≤ h.2 + 1
  cl : ∀ j < i, ∀ h, m[j]? = some h → ∀ v ∈ sprF w h.1, ∃ k, (abtF w h.1 v, k) ∈ m ∧ k ≤ h.2 + 1
structure BN (w : Web) (p0 : List Int) (m0 : FM) (h : List Int × Int) (pre : List (List Int)) (m : FM) : Prop where
  nd : (m.map Prod.fst).Nodup
  ok : ∀ q k, (q, k) ∈ m → ∃ row, turnsGo w p0 row = some q ∧ (row.length : Int) = k
  ex : ∃ r, m = m0 ++ r ∧ ∀ t ∈ r, t.2 = h.2 + 1
  cl : ∀ t ∈ pre, ∃ k, (t, k) ∈ m ∧ k ≤ h.2 + 1
variable {w : Web} {p0 : List Int} {m m0 : FM} {i : Nat} {h : List Int × Int} {pre : List (List Int)}
theorem BO.start : BO w p0 [(p0, 0)] 0 :=
  ⟨by simp, by simp, fun q k hk => by simp at hk; obtain ⟨rfl, rfl⟩ := hk; exact ⟨[], rfl, rfl⟩, by simp, fun h hh t ht => by simp at hh ht; subst hh ht; simp, fun j hj => by omega⟩
theorem BO.falls (o : w.ok) (hp : isP w p0) (ap : Acyc (arw w p0)) (b : BO w p0 m i) : ∀ q ∈ m.map Prod.fst, isP w q ∧ Acyc (arw w q) ∧ Kin w p0 q := fun q hq => by
  obtain ⟨⟨q, k⟩, ht, rfl⟩ := List.mem_map.mp hq
  obtain ⟨row, hr, _⟩ := b.ok _ _ ht
  obtain ⟨a, c, d, _⟩ := go_fit o hp ap hr
  exact ⟨a, c, _, d⟩
theorem BO.in (b : BO w p0 m i) : BN w p0 m h [] m := ⟨b.nd, b.ok, ⟨[], by simp, by simp⟩, by simp⟩
theorem BN.falls (o : w.ok) (hp : isP w p0) (ap : Acyc (arw w p0)) (b : BN w p0 m0 h pre m) : ∀ q ∈ m.map Prod.fst, isP w q ∧ Acyc (arw w q) ∧ Kin w p0 q := fun q hq => by
  obtain ⟨⟨q, k⟩, ht, rfl⟩ := List.mem_map.mp hq
  obtain ⟨row, hr, _⟩ := b.ok _ _ ht
  obtain ⟨a, c, d, _⟩ := go_fit o hp ap hr
  exact ⟨a, c, _, d⟩
theorem BN.old (b0 : BO w p0 m0 i) (hh : m0[i]? = some h) (b : BN w p0 m0 h pre m) {t : List Int} {k : Int} (ht : (t, k) ∈ m) : BN w p0 m0 h (pre ++ [t]) m := by
  refine ⟨b.nd, b.ok, b.ex, fun s hs => ?_⟩
  rcases List.mem_append.mp hs with hs | hs
  · exact b.cl s hs
  · simp at hs; subst hs
    refine ⟨k, ht, ?_⟩
    obtain ⟨r, rfl, hr⟩ := b.ex
    rcases List.mem_append.mp ht with c | c
    · exact b0.la h hh _ c
    · have := hr _ c; simp only at this; omega
theorem BN.new (hm : h ∈ m0) (b : BN w p0 m0 h pre m) {v : Int} (hv : v ∈ sprF w h.1) (hn : abtF w h.1 v ∉ m.map Prod.fst) : BN w p0 m0 h (pre ++ [abtF w h.1 v]) (m ++ [(abtF w h.1 v, h.2 + 1)]) := by
  have hmm : h ∈ m := by obtain ⟨r, rfl, _⟩ := b.ex; exact List.mem_append_left _ hm
  refine ⟨?_, fun q k hq => ?_, ?_, fun s hs => ?_⟩
  · rw [List.map_append, List.nodup_append]
    exact ⟨b.nd, by simp, fun x hx y hy e => by simp at hy; subst hy; subst e; exact hn hx⟩
  · rcases List.mem_append.mp hq with hq | hq
    · exact b.ok q k hq
    · simp at hq; obtain ⟨rfl, rfl⟩ := hq
      obtain ⟨row, h1, h2⟩ := b.ok h.1 h.2 hmm
      refine ⟨row ++ [v], ?_, by rw [List.length_append, List.length_singleton]; omega⟩
      rw [turnsGo_app h1]
      unfold turnsGo
      rw [if_pos hv]; rfl
  · obtain ⟨r, e, hr⟩ := b.ex
    refine ⟨r ++ [(abtF w h.1 v, h.2 + 1)], by rw [e, List.append_assoc], fun t ht => ?_⟩
    rcases List.mem_append.mp ht with ht | ht
    · exact hr t ht
    · simp at ht; subst ht; rfl
  · rcases List.mem_append.mp hs with hs | hs
    · obtain ⟨k, h1, h2⟩ := b.cl s hs
      exact ⟨k, List.mem_append_left _ h1, h2⟩
    · simp at hs; subst hs
      exact ⟨h.2 + 1, List.mem_append_right _ (by simp), by omega⟩
theorem BN.out (b0 : BO w p0 m0 i) (hh : m0[i]? = some h) (b : BN w p0 m0 h ((sprF w h.1).map (abtF w h.1)) m) : BO w p0 m (i + 1) := by
  obtain ⟨r, rfl, hr⟩ := b.ex
  obtain ⟨hi, hg⟩ := List.getElem?_eq_some_iff.mp hh
  have le1 : ∀ t ∈ m0 ++ r, t.2 ≤ h.2 + 1 := fun t ht => by
    rcases List.mem_append.mp ht with c | c
    · exact b0.la h hh _ c
    · have := hr _ c; omega
  have mo : (m0 ++ r).Pairwise fun a b => a.2 ≤ b.2 := by
    rw [List.pairwise_append]
    refine ⟨b0.mo, ?_, fun x hx y hy => ?_⟩
    · refine List.pairwise_of_forall_mem_list fun x hx y hy => ?_
      rw [hr x hx, hr y hy]; exact Int.le_refl _
    · have := b0.la h hh x hx
      have := hr y hy
      omega
  refine ⟨b.nd, List.mem_append_left _ b0.st, b.ok, mo, fun g hg2 t ht => ?_, fun j hj g hg2 v hv => ?_⟩
  · obtain ⟨hi2, hg3⟩ := List.getElem?_eq_some_iff.mp hg2
    have := List.pairwise_iff_getElem.mp mo i (i + 1) (by rw [List.length_append]; omega) hi2 (by omega)
    rw [hg3, List.getElem_append_left hi, hg] at this
    have := le1 t ht
    omega
  · have hjl : j < m0.length := by omega
    rw [List.getElem?_append_left hjl] at hg2
    by_cases e : j = i
    · subst e
      rw [hh] at hg2; cases hg2
      exact b.cl _ (List.mem_map.mpr ⟨v, hv, rfl⟩)
    · obtain ⟨k, h1, h2⟩ := b0.cl j (by omega) g hg2 v hv
      exact ⟨k, List.mem_append_left _ h1, h2⟩
/-- all is closed -/
theorem BO.reach (b : BO w p0 m i) (hi : m.length ≤ i) : ∀ {row q q2 : List Int} {k : Int}, (q, k) ∈ m → turnsGo w q row = some q2 → ∃ k2, (q2, k2) ∈ m ∧ k2 ≤ k + row.length
  | [], q, q2, k, h, hr => by unfold turnsGo at hr; cases hr; exact ⟨k, h, by simp⟩
  | v :: row, q, q2, k, h, hr => by
    unfold turnsGo at hr
    split at hr
    · next c =>
      obtain ⟨j, hj, e⟩ := List.getElem_of_mem h
      obtain ⟨k1, h1, h2⟩ := b.cl j (by omega) (q, k) (by rw [List.getElem?_eq_getElem hj, e]) v c
      obtain ⟨k2, h3, h4⟩ := b.reach hi h1 hr
      refine ⟨k2, h3, ?_⟩
      rw [List.length_cons]
      simp only at h2
      omega
    · cases hr
theorem BO.kin (o : w.ok) (hp : isP w p0) (ap : Acyc (arw w p0)) (b : BO w p0 m i) (hi : m.length ≤ i) {q : List Int} (hq : isP w q) (aq : Acyc (arw w q)) : q ∈ m.map Prod.fst ↔ Kin w p0 q := by
  refine ⟨fun h => (b.falls o hp ap q h).2.2, fun h => ?_⟩
  obtain ⟨row, hr⟩ := kin_row o hp hq ap aq h
  obtain ⟨k2, h1, _⟩ := b.reach hi b.st hr
  exact List.mem_map.mpr ⟨_, h1, rfl⟩
theorem BO.least (o : w.ok) (hp : isP w p0) (ap : Acyc (arw w p0)) (b : BO w p0 m i) (hi : m.length ≤ i) {q row l : List Int} (hq : isP w q) (aq : Acyc (arw w q)) (hr : turnsGo w p0 row = some q) (hl : Norm w p0 q l) (he : (row.length : Int) = sumI l) : m.lookup q = some (row.length : Int) := by
  obtain ⟨k2, h1, h2⟩ := b.reach hi b.st hr
  obtain ⟨row2, h3, h4⟩ := b.ok q k2 h1
  have := norm_least o hp hq ap aq hl h3
  have e : k2 = row.length := by omega
  rw [← e]
  exact lookG_nd b.nd h1
end Lib
end G7

namespace G7
namespace Lib
open PySem
def lastI (r : List Int) : Int := r.getLast?.getD 0
/-- a way of ties, no place twice, its first place the least -/
structure Wy (w : Web) (r : List Int) : Prop where
  nd : r.Nodup
  rg : ∀ x ∈ r, 0 ≤ x ∧ x < w.n
  td : ∀ z ∈ r.zip r.tail, T w z.1 z.2
  ls : ∃ a s, r = a :: s ∧ ∀ x ∈ s, a ≤ x
def isR (w : Web) (r : List Int) : Prop := T w (lastI r) (gI r 0) ∧ 2 < r.length ∧ gI r 1 < lastI r
def wtN : Nat → Nat
  | 0 => 55986 | 1 => 9331 | 2 => 1555 | 3 => 259 | 4 => 43 | 5 => 7 | 6 => 1 | _ => 0
theorem Wy.len {w : Web} (h6 : w.n ≤ 6) {r : List Int} (h : Wy w r) : 1 ≤ r.length ∧ r.length ≤ 6 := by
  obtain ⟨a, s, e, _⟩ := h.ls
  have h1 := nodup_le (m := irng 0 w.n) h.nd fun x hx => mem_ints.mpr (h.rg x hx)
  rw [ints_len] at h1
  refine ⟨by rw [e]; simp, by omega⟩
theorem wt_step {k : Nat} (h1 : 1 ≤ k) (h6 : k ≤ 6) : 1 + 6 * wtN (k + 1) ≤ wtN k := by
  rcases (show k = 1 ∨ k = 2 ∨ k = 3 ∨ k = 4 ∨ k = 5 ∨ k = 6 by omega) with e | e | e | e | e | e <;> rw [e] <;> decide
abbrev wts (L : List (List Int)) : Nat := (L.map fun r => wtN r.length).sum
theorem wts_same {k : Nat} : ∀ {L : List (List Int)}, (∀ r ∈ L, r.length = k) → wts L = L.length * wtN k
  | [], _ => by simp [wts]
  | r :: L, h => by
    have := wts_same (L := L) fun s hs => h s (List.mem_cons_of_mem _ hs)
    simp only [wts, List.map_cons, List.sum_cons, List.length_cons] at *
    rw [h r List.mem_cons_self, this, Nat.succ_mul]; omega
theorem wts_app (a b : List (List Int)) : wts (a ++ b) = wts a + wts b := by simp [wts]
theorem Wy.add {w : Web} {r : List Int} (h : Wy w r) {p : Int} (hp : p < w.n) (h0 : gI r 0 ≤ p) (ht : T w (lastI r) p) (hn : p ∉ r) : Wy w (r ++ [p]) := by
  obtain ⟨a, s, e, hs⟩ := h.ls
  have ha : gI r 0 = a := by rw [e]; rfl
  have hne : r ≠ [] := by rw [e]; simp
  have hlast : r.getLast? = some (lastI r) := by
    unfold lastI
    rw [List.getLast?_eq_some_getLast hne]; rfl
  have har := h.rg a (by rw [e]; simp)
  refine ⟨?_, fun x hx => ?_, fun z hz => ?_, ⟨a, s ++ [p], by rw [e]; rfl, fun x hx => ?_⟩⟩
  · rw [List.nodup_append]
    exact ⟨h.nd, by simp, fun x hx y hy c => by simp at hy; subst hy; subst c; exact hn hx⟩
  · rcases List.mem_append.mp hx with hx | hx
    · exact h.rg x hx
    · simp at hx; subst hx; omega
  · rw [zip_over hne, zip_tail hlast] at hz
    rcases List.mem_append.mp hz with hz | hz
    · exact h.td z hz
    · simp at hz; subst hz; exact ht
  · rcases List.mem_append.mp hx with hx | hx
    · exact hs x hx
    · simp at hx; subst hx; omega
/-- the ways looked at: those ahead of i are done -/
structure RI (w : Web) (ways found : List (List Int)) (i : Nat) : Prop where
  wy : ∀ r ∈ ways, Wy w r
  st : ∀ x, 0 ≤ x → x < w.n → [x] ∈ ways
  cl : ∀ j < i, ∀ r, ways[j]? = some r → ∀ p, gI r 0 ≤ p → p < w.n → T w (lastI r) p → p ∉ r → r ++ [p] ∈ ways
  fd : ∀ r, r ∈ found ↔ (∃ j < i, ways[j]? = some r) ∧ isR w r
  wt : i + wts (ways.drop i) ≤ 55986
structure RN (w : Web) (ways0 found0 : List (List Int)) (i : Nat) (r : List Int) (pre : List Int) (ways found : List (List Int)) : Prop where
  ex : ∃ s, ways = ways0 ++ s ∧ s.length ≤ pre.length ∧ ∀ t ∈ s, Wy w t ∧ t.length = r.length + 1
  cl : ∀ p ∈ pre, T w (lastI r) p → p ∉ r → r ++ [p] ∈ ways
  fd : ∀ t, t ∈ found ↔ t ∈ found0 ∨ (t = r ∧ isR w r ∧ gI r 0 ∈ pre)
theorem Wy.one {w : Web} {x : Int} (h0 : 0 ≤ x) (h1 : x < w.n) : Wy w [x] := ⟨by simp, by simp; omega, by simp, ⟨x, [], rfl, by simp⟩⟩
theorem Wy.head {w : Web} {r : List Int} (h : Wy w r) : 0 ≤ gI r 0 ∧ gI r 0 < w.n ∧ ∀ x ∈ r, gI r 0 ≤ x := by
  obtain ⟨a, s, e, hs⟩ := h.ls
  have ha : gI r 0 = a := by rw [e]; rfl
  have := h.rg a (by rw [e]; simp)
  refine ⟨by omega, by omega, fun x hx => ?_⟩
  rw [e] at hx
  rcases List.mem_cons.mp hx with rfl | hx
  · omega
  · have := hs x hx; omega
section
variable {w : Web} {ways ways0 found found0 : List (List Int)} {i : Nat} {r pre : List Int} {p : Int}
theorem RI.start (o : w.ok) (h6 : w.n ≤ 6) : RI w ((irng 0 w.n).map fun x => [x]) [] 0 := by
  have n1 := o.n1
  refine ⟨fun r hr => ?_, fun x x0 x1 => List.mem_map.mpr ⟨x, mem_ints.mpr ⟨x0, x1⟩, rfl⟩, fun j hj => by omega, fun r => ⟨fun h => by simp at h, fun ⟨⟨j, hj, _⟩, _⟩ => by omega⟩, ?_⟩
  · obtain ⟨x, hx, rfl⟩ := List.mem_map.mp hr
    have hx := mem_ints.mp hx
    exact .one hx.1 hx.2
  · rw [List.drop_zero, wts_same (k := 1) fun r hr => by obtain ⟨x, _, rfl⟩ := List.mem_map.mp hr; rfl]
    rw [List.length_map, ints_len, show wtN 1 = 9331 from rfl]
    omega
theorem RN.start : RN w ways found i r [] ways found := ⟨⟨[], by simp, by simp, by simp⟩, by simp, fun t => by simp⟩
open Classical in
theorem RN.step (hr : Wy w r) (b : RN w ways0 found0 i r pre ways found) (hp : p < w.n) (h0 : gI r 0 ≤ p) {ways2 found2 : List (List Int)}
    (hw : ways2 = if T w (lastI r) p ∧ p ∉ r then ways ++ [r ++ [p]] else ways) (hf : found2 = if T w (lastI r) p ∧ p = gI r 0 ∧ 2 < r.length ∧ gI r 1 < lastI r then found ++ [r] else found) : RN w ways0 found0 i r (pre ++ [p]) ways2 found2 := by
  have sub : ∀ x ∈ ways, x ∈ ways2 := fun x hx => by rw [hw]; split; exact List.mem_append_left _ hx; exact hx
  obtain ⟨s, es, sl, sw⟩ := b.ex
  refine ⟨?_, fun q hq ht hn => ?_, fun t => ?_⟩
  · rw [hw]
    split
    · next c =>
      refine ⟨s ++ [r ++ [p]], by rw [es, List.append_assoc], by simp only [List.length_append, List.length_singleton]; omega, fun t ht => ?_⟩
      rcases List.mem_append.mp ht with ht | ht
      · exact sw t ht
      · simp at ht; subst ht
        exact ⟨hr.add hp h0 c.1 c.2, by simp⟩
    · exact ⟨s, es, by rw [List.length_append]; omega, sw⟩
  · rcases List.mem_append.mp hq with hq | hq
    · exact sub _ (b.cl q hq ht hn)
    · simp at hq; subst hq
      rw [hw, if_pos ⟨ht, hn⟩]; simp
  · have key : t ∈ found2 ↔ t ∈ found ∨ (t = r ∧ T w (lastI r) p ∧ p = gI r 0 ∧ 2 < r.length ∧ gI r 1 < lastI r) := by
      rw [hf]
      split
      · next c => rw [List.mem_append, List.mem_singleton]; exact ⟨fun h => h.imp id fun e => ⟨e, c⟩, fun h => h.imp id fun e => e.1⟩
      · next c => exact ⟨.inl, fun h => h.elim id fun e => absurd e.2 c⟩
    rw [key, b.fd]
    unfold isR
    rw [List.mem_append, List.mem_singleton]
    constructor
    · rintro ((h | ⟨h1, h2, h3⟩) | ⟨h1, h2, h3, h4, h5⟩)
      · exact .inl h
      · exact .inr ⟨h1, h2, .inl h3⟩
      · exact .inr ⟨h1, ⟨by rw [← h3]; exact h2, h4, h5⟩, .inr h3.symm⟩
    · rintro (h | ⟨h1, h2, h3 | h3⟩)
      · exact .inl (.inl h)
      · exact .inl (.inr ⟨h1, h2, h3⟩)
      · exact .inr ⟨h1, by rw [← h3]; exact h2.1, h3.symm, h2.2.1, h2.2.2⟩
theorem RN.out (h6 : w.n ≤ 6) (b0 : RI w ways0 found0 i) (hh : ways0[i]? = some r) (b : RN w ways0 found0 i r (irng (gI r 0) w.n) ways found) : RI w ways found (i + 1) := by
  obtain ⟨s, es, sl, sw⟩ := b.ex
  obtain ⟨hi, hg⟩ := List.getElem?_eq_some_iff.mp hh
  have hr := b0.wy r (List.mem_of_getElem? hh)
  obtain ⟨g0, g1, g2⟩ := hr.head
  have gets : ∀ j, j < i + 1 → ways[j]? = ways0[j]? := fun j hj => by rw [es, List.getElem?_append_left (by omega)]
  refine ⟨fun t ht => ?_, fun x x0 x1 => ?_, fun j hj t ht p hp hp2 hT hn => ?_, fun t => ?_, ?_⟩
  · rw [es] at ht
    rcases List.mem_append.mp ht with ht | ht
    · exact b0.wy t ht
    · exact (sw t ht).1
  · rw [es]; exact List.mem_append_left _ (b0.st x x0 x1)
  · rw [gets j hj] at ht
    by_cases e : j = i
    · subst e
      rw [hh] at ht; cases ht
      exact b.cl p (mem_ints.mpr ⟨hp, hp2⟩) hT hn
    · rw [es]; exact List.mem_append_left _ (b0.cl j (by omega) t ht p hp hp2 hT hn)
  · rw [b.fd, b0.fd]
    constructor
    · rintro (⟨⟨j, hj, e⟩, h2⟩ | ⟨rfl, h2, _⟩)
      · exact ⟨⟨j, by omega, by rw [gets j (by omega)]; exact e⟩, h2⟩
      · exact ⟨⟨i, by omega, by rw [gets i (by omega)]; exact hh⟩, h2⟩
    · rintro ⟨⟨j, hj, e⟩, h2⟩
      rw [gets j hj] at e
      by_cases c : j = i
      · subst c
        rw [hh] at e; cases e
        exact .inr ⟨rfl, h2, mem_ints.mpr ⟨by omega, by omega⟩⟩
      · exact .inl ⟨⟨j, by omega, e⟩, h2⟩
  · have h1 := b0.wt
    have e1 : ways0.drop i = r :: ways0.drop (i + 1) := by rw [List.drop_eq_getElem_cons hi, hg]
    have e2 : ways.drop (i + 1) = ways0.drop (i + 1) ++ s := by rw [es, List.drop_append_of_le_length (by omega)]
    rw [e1] at h1
    rw [e2, wts_app, wts_same fun t ht => (sw t ht).2]
    have hl := hr.len h6
    have h2 := wt_step hl.1 hl.2
    rw [ints_len] at sl
    have h3 : s.length * wtN (r.length + 1) ≤ 6 * wtN (r.length + 1) := Nat.mul_le_mul_right _ (by omega)
    simp only [wts, List.map_cons, List.sum_cons] at h1 ⊢
    omega
/-- all ways are looked at -/
theorem RI.all (b : RI w ways found i) (hi : ways.length ≤ i) : ∀ {r : List Int}, Wy w r → r ∈ ways := by
  have key : ∀ (k : Nat) {r : List Int}, r.length = k → Wy w r → r ∈ ways := by
    intro k
    induction k with
    | zero => intro r hl h; obtain ⟨a, s, e, _⟩ := h.ls; rw [e] at hl; simp at hl
    | succ k ih =>
      intro r hl h
      obtain ⟨a, s, e, hs⟩ := h.ls
      have hr := h.rg a (by rw [e]; simp)
      rcases List.eq_nil_or_concat s with c | ⟨s2, p, c⟩
      · rw [e, c]; exact b.st a hr.1 hr.2
      · have e2 : r = (a :: s2) ++ [p] := by rw [e, c]; simp
        have hne : a :: s2 ≠ [] := by simp
        have hlast : (a :: s2).getLast? = some (lastI (a :: s2)) := by
          unfold lastI
          rw [List.getLast?_eq_some_getLast hne]; rfl
        have hz := h.td
        rw [e2, zip_over hne, zip_tail hlast] at hz
        have nd := h.nd
        rw [e2, List.nodup_append] at nd
        have hw2 : Wy w (a :: s2) := ⟨nd.1, fun x hx => h.rg x (by rw [e2]; exact List.mem_append_left _ hx), fun z hzz => hz z (List.mem_append_left _ hzz), ⟨a, s2, rfl, fun x hx => hs x (by rw [c]; simp [hx])⟩⟩
        have hm := ih (r := a :: s2) (by rw [e2, List.length_append, List.length_singleton] at hl; omega) hw2
        obtain ⟨j, hj, ej⟩ := List.getElem_of_mem hm
        rw [e2]
        refine b.cl j (by omega) (a :: s2) (by rw [List.getElem?_eq_getElem hj, ej]) p (hs p (by rw [c]; simp)) (h.rg p (by rw [e2]; simp)).2 (hz (lastI (a :: s2), p) (List.mem_append_right _ (by simp))) fun hm => nd.2.2 p hm p (by simp) rfl
  exact fun {r} h => key _ rfl h
end
end Lib
end G7

namespace G7
open PySem

local macro_rules | `(tactic| walk_at "op") => `(tactic| first
  | with_reducible exact addD_i _ _ | with_reducible exact subD_i _ _ | with_reducible exact ltD_i _ _ | with_reducible exact leD_i _ _ | with_reducible exact gtD_i _ _ | with_reducible exact geD_i _ _
  | with_reducible exact eqD_i _ _ | with_reducible exact neD_i _ _ | with_reducible exact lenD_lm | with_reducible exact lenD_tm | with_reducible exact lenD_l _ | with_reducible exact lenD_t _ | with_reducible exact dP_0 _ | with_reducible exact dP_1 _
  | with_reducible exact ixD_t0 _ _ | with_reducible exact ixD_t1 _ _ _ | with_reducible exact ixD_t2 _ _ _ _ | with_reducible exact ixD_l0 _ _ | with_reducible exact ixD_l0m | with_reducible exact ixD_t0m | exact eqD_sT | exact eqD_sF | exact neD_sT | exact neD_sF | with_reducible exact ixD_l1 _ _ _
  | with_reducible exact Lib.dW_0 _ | with_reducible exact Lib.dW_1 _ | with_reducible exact tupD_l _ | with_reducible exact tupD_t _ | with_reducible exact lstD_l _ | with_reducible exact lstD_t _ | with_reducible exact max2D_i _ _ | with_reducible exact min2D_i _ _
  | with_reducible exact isTD_i | with_reducible exact revT_m | with_reducible exact slL_m1 | with_reducible exact tupRevD_m | ((with_reducible refine' indexD_li ?_); with_reducible assumption) | ((with_reducible refine' indexD_xi ?_); with_reducible assumption) | ((with_reducible refine' Lib.indexD_Xi ?_); with_reducible assumption) | with_reducible exact isTD_s _ _ | with_reducible exact powD_6 | with_reducible exact powD_16 | with_reducible exact powD_18 | with_reducible exact isTD_t _ _ | with_reducible exact isTD_l _ _ | with_reducible exact isTD_b _ _ | with_reducible exact isTD_n _ | with_reducible exact isD_bb _ _ | with_reducible exact isNotD_bb _ _ | with_reducible exact isD_n' () | with_reducible exact isD_lN _ | with_reducible exact isD_tN _ | with_reducible exact isNotD_lN _ | with_reducible exact isNotD_tN _ | with_reducible exact intD_b _ | with_reducible exact intD_i _ | with_reducible exact negD_i _ | with_reducible exact eqD_b _ _ | with_reducible exact neD_b _ _
  | with_reducible exact neD_l0 _ | with_reducible exact eqD_l0 _ | with_reducible exact eqD_li _ _ | with_reducible exact neD_li _ _ | with_reducible exact eqD_ti _ _ | with_reducible exact neD_ti _ _
  | with_reducible exact eqD_lp _ _ | with_reducible exact neD_lp _ _ | with_reducible exact eqD_tp _ _ | with_reducible exact neD_tp _ _
  | with_reducible exact inD_li _ _ | with_reducible exact inD_ti _ _ | with_reducible exact notInD_li _ _ | with_reducible exact notInD_ti _ _ | with_reducible exact inD_lp _ _ | with_reducible exact inD_tp _ _
  | with_reducible exact notInD_lp _ _ | with_reducible exact notInD_tp _ _ | with_reducible exact inD_lp' _ _ _ | with_reducible exact inD_tp' _ _ _ | with_reducible exact notInD_lp' _ _ _ | with_reducible exact notInD_tp' _ _ _
  | with_reducible exact inD_pair _ _ _ | with_reducible exact sortedAD_i _ | with_reducible exact sortedAD_p _ | with_reducible exact allD_b _ | with_reducible exact anyD_b _
  | ((with_reducible refine' addD_1m ?_); omega) | with_reducible exact Lib.maxAD_0 _ | with_reducible exact Lib.din_dI _ _ | with_reducible exact Lib.dinTD_p _ _ | with_reducible exact Lib.dninTD_p _ _ | with_reducible exact Lib.lenTD_p _ | with_reducible exact Lib.sortTLD_p _ | with_reducible exact Lib.dnin_dI _ _ | ((with_reducible apply Lib.dget_dI); with_reducible assumption) | ((with_reducible refine' repLD_0 ?_ ?_) <;> omega) | ((with_reducible refine' slT_tom ?_); omega) | ((with_reducible refine' slT_frm ?_); omega) | ((with_reducible refine' slL_tom ?_); omega) | ((with_reducible refine' slL_frm ?_); omega) | ((with_reducible refine' modD_i ?_); omega) | ((with_reducible refine' fdivD_i ?_ ?_) <;> omega) | ((with_reducible refine' mulID_i (okMul_l ?_ ?_)) <;> omega) | ((with_reducible refine' mulID_i (okMul_r ?_ ?_)) <;> omega)
  | ((with_reducible refine' ixD_lm ?_ ?_) <;> omega) | ((with_reducible refine' ixD_tm ?_ ?_) <;> omega) | with_reducible assumption)
local macro_rules | `(tactic| walk_at "env") => `(tactic| simp only [List.set_cons_zero, List.set_cons_succ, upd, wp_cons, wp_nil, back_cons, back_nil, List.getElem?_cons_zero, List.getElem?_cons_succ, Option.getD_some, toF])
local macro_rules | `(tactic| walk_at "cond") => `(tactic| first | assumption | omega | exact rfl | (focus (simp; done)))
local macro_rules | `(tactic| walk_at "mut") => `(tactic| first | ((with_reducible refine' popAtF_m ?_ ?_) <;> omega) | ((with_reducible refine' appendF_m ?_); first | omega | (simp only [List.length_append, List.length_map, List.length_cons, List.length_nil]; omega)) | ((with_reducible refine' removeF_i ?_); (first | assumption | (simp; done))) | ((with_reducible refine' extendF_m ?_); first | omega | (simp only [List.length_append, List.length_map, List.length_cons, List.length_nil]; omega)))
local macro_rules | `(tactic| walk_at "s") => `(tactic| first
  | with_reducible refine' i_seq ?_ | ((with_reducible apply i_frz); (exact rfl); (first | exact nt_l | exact nt_d)) | ((with_reducible apply i_asV); (exact rfl)) | ((with_reducible apply i_asO); (exact rfl); (first | exact nt_l | exact nt_d)) | with_reducible refine' i_op2 ?_ | with_reducible refine' i_acons ?_ | with_reducible refine' i_anil ?_ | ((with_reducible apply i_var); exact rfl) | with_reducible refine' i_c ?_
  | with_reducible refine' i_asg ?_ | with_reducible refine' i_par ?_ | with_reducible refine' i_par2 ?_ | with_reducible refine' i_call ?_ | with_reducible refine' i_blt ?_ | with_reducible refine' i_op1 ?_ | with_reducible refine' i_tup ?_ | with_reducible refine' i_list ?_
  | ((with_reducible apply i_ex); walk_at "op") | ((with_reducible apply i_exk); walk_at "op")
  | with_reducible refine' i_val ?_ | with_reducible refine' i_exb ?_ | with_reducible refine' i_if ?_ | with_reducible refine' i_ret ?_ | with_reducible refine' i_nil ?_
  | with_reducible refine' i_T ?_ | with_reducible refine' i_F ?_ | with_reducible refine' i_tand ?_ | with_reducible refine' i_tor ?_ | with_reducible refine' i_tnot ?_ | with_reducible refine' i_yes ?_
  | with_reducible refine' i_and ?_ | with_reducible refine' i_or ?_ | with_reducible refine' i_not ?_ | with_reducible refine' i_ife ?_ | with_reducible refine' i_chain ?_
  | with_reducible refine' i_comp ?_ | with_reducible refine' i_iseq ?_ | with_reducible refine' i_irg1 ?_ | with_reducible refine' i_irg2 ?_ | with_reducible refine' i_izip ?_ | with_reducible refine' i_lstZ ?_ | with_reducible refine' i_lzT ?_ | with_reducible refine' i_lzL ?_ | with_reducible refine' i_disp1 ?_ | with_reducible refine' i_keyI ?_ | with_reducible refine' i_zipT ?_ | with_reducible refine' i_zipL ?_ | with_reducible refine' i_ienum ?_ | ((with_reducible apply i_enum); exact rfl) | with_reducible refine' i_irev ?_
  | with_reducible refine' i_for ?_ | with_reducible refine' i_lstrg ?_ | with_reducible refine' i_asgG ?_ | with_reducible refine' i_asgP ?_ | with_reducible refine' i_expr ?_ | with_reducible refine' i_retN ?_ | with_reducible refine' i_brk ?_ | with_reducible refine' i_cnt ?_
  | with_reducible refine' i_on ?_ | with_reducible refine' i_os ?_ | with_reducible refine' i_sl ?_ | ((with_reducible apply i_exl); exact rfl)
  | ((with_reducible refine' i_rg1 ?_ ?_); (constructor <;> omega)) | ((with_reducible refine' i_rg2 ?_ ?_); (refine ⟨?_, ?_, ?_, ?_⟩ <;> omega))
  | with_reducible refine' i_exi ?_
  | (with_reducible refine' i_len (Nat.le_of_ble_eq_true rfl) ?_)
  | ((with_reducible apply i_g); exact rfl) | ((with_reducible refine' i_plix ?_ ?_); exact rfl) | with_reducible refine' i_plset ?_ | with_reducible refine' i_np ?_
  | with_reducible refine' Lib.i_xt ?_ | with_reducible refine' Lib.i_idxX ?_ | with_reducible refine' i_idxL ?_ | with_reducible refine' i_idl ?_ | with_reducible refine' i_idx ?_
  | ((with_reducible apply i_mut1); (exact rfl); walk_at "mut")
  | ((with_reducible apply Lib.i_keysT); exact rfl) | (with_reducible refine' Lib.i_dputT ?_) | ((with_reducible apply Lib.i_dputT0); exact rfl) | ((with_reducible apply Lib.i_dputT1); (exact rfl); omega)
  | (with_reducible refine' Lib.i_dput ?_) | ((with_reducible apply Lib.i_dput0); exact rfl) | ((with_reducible apply Lib.i_dput1); (exact rfl); omega)
  | ((with_reducible refine' i_dT ?_ ?_); walk_at "cond") | ((with_reducible refine' i_dF ?_ ?_); walk_at "cond") | ((with_reducible refine' i_ndT ?_ ?_); walk_at "cond") | ((with_reducible refine' i_ndF ?_ ?_); walk_at "cond")
  | ((with_reducible refine' i_bT ?_ ?_); (first | with_reducible assumption | exact rfl)) | ((with_reducible refine' i_bF ?_ ?_); (first | with_reducible assumption | exact rfl))
  | ((with_reducible apply i_setixm); (exact rfl); omega; omega) | (with_reducible refine' i_setix ?_) | ((with_reducible apply i_setix0); exact rfl) | ((with_reducible apply i_mut); exact rfl))
local macro_rules | `(tactic| walk_at "run") => `(tactic| (repeat (walk_at "s")); try walk_at "env")
local macro_rules | `(tactic| walk_at "start") => `(tactic| simp only [startE, List.map_cons, List.map_nil, List.length_cons, List.length_nil, Nat.reduceAdd, Nat.reduceSub, Nat.zero_add, List.replicate_succ, List.replicate_zero, List.cons_append, List.nil_append])
local macro_rules | `(tactic| walk_at "len") => `(tactic| first | omega | (simp only [List.length_map, List.length_append, List.length_cons, List.length_nil]; omega) | (refine Nat.le_trans ?_ (Nat.le_refl _); have := List.length_filter_le; simp_all; done))
local macro_rules | `(tactic| walk_at "opl") => `(tactic| first | ((with_reducible refine' addD_lm ?_); walk_at "len") | ((with_reducible refine' addD_tm ?_); walk_at "len") | ((with_reducible refine' addLD_lm ?_); walk_at "len"))
/-- a comprehension: of what is walked itself, of ints, pairs, truths -/
local macro_rules | `(tactic| walk_at "comp") => `(tactic| first
  | (refine comp_fil ?_ (fun x hx => ?_) ?_; rotate_left 1; focus ((try have hx1 := Fact.use (by assumption) hx); (try have hx2 := mem_ints.mp hx); (try dsimp only at hx1); refine ⟨_, rfl, fun R hR => ?_, fun hp R hR => ?_, rfl⟩ <;> (repeat (walk_at "s")) <;> exact hR))
  | (refine comp_all (en2 := PySem.PyData.int) ?_ (fun x hx => ?_) ?_; rotate_left 1; focus ((try have hx1 := Fact.use (by assumption) hx); (try have hx2 := mem_ints.mp hx); (try dsimp only at hx1); refine ⟨_, rfl, fun R hR => ?_, rfl⟩ <;> (repeat (walk_at "s")) <;> exact hR))
  | (refine comp_all (en2 := PySem.PyData.bool) ?_ (fun x hx => ?_) ?_; rotate_left 1; focus ((try have hx1 := Fact.use (by assumption) hx); (try have hx2 := mem_ints.mp hx); (try dsimp only at hx1); refine ⟨_, rfl, fun R hR => ?_, rfl⟩ <;> (repeat (walk_at "s")) <;> exact hR))
  | (refine comp_all (en2 := dP) ?_ (fun x hx => ?_) ?_; rotate_left 1; focus ((try have hx1 := Fact.use (by assumption) hx); (try have hx2 := mem_ints.mp hx); (try dsimp only at hx1); refine ⟨_, rfl, fun R hR => ?_, rfl⟩ <;> (repeat (walk_at "s")) <;> exact hR))
  | (refine comp_el (en2 := PySem.PyData.int) ?_ ?_ (fun x hx => ?_) ?_; rotate_left 2; focus ((try have hx1 := Fact.use (by assumption) hx); (try have hx2 := mem_ints.mp hx); (try dsimp only at hx1); refine ⟨_, rfl, fun R hR => ?_, fun hp R hR => ?_, rfl⟩ <;> (repeat (walk_at "s")) <;> exact hR))
  | (refine comp_el (en2 := dP) ?_ ?_ (fun x hx => ?_) ?_; rotate_left 2; focus ((try have hx1 := Fact.use (by assumption) hx); (try have hx2 := mem_ints.mp hx); (try dsimp only at hx1); refine ⟨_, rfl, fun R hR => ?_, fun hp R hR => ?_, rfl⟩ <;> (repeat (walk_at "s")) <;> exact hR))
  | (refine comp_el (en2 := PySem.PyData.bool) ?_ ?_ (fun x hx => ?_) ?_; rotate_left 2; focus ((try have hx1 := Fact.use (by assumption) hx); (try have hx2 := mem_ints.mp hx); (try dsimp only at hx1); refine ⟨_, rfl, fun R hR => ?_, fun hp R hR => ?_, rfl⟩ <;> (repeat (walk_at "s")) <;> exact hR))
  | (refine comp_allD (en2 := PySem.PyData.int) ?_ (fun x hx => ?_) ?_; rotate_left 1; focus ((try have hx1 := Fact.use (by assumption) hx); (try dsimp only at hx1); refine ⟨_, rfl, fun R hR => ?_, rfl⟩ <;> (repeat (walk_at "s")) <;> exact hR))
  | (refine comp_allD (en2 := PySem.PyData.bool) ?_ (fun x hx => ?_) ?_; rotate_left 1; focus ((try have hx1 := Fact.use (by assumption) hx); (try dsimp only at hx1); refine ⟨_, rfl, fun R hR => ?_, rfl⟩ <;> (repeat (walk_at "s")) <;> exact hR)))
local macro_rules | `(tactic| walk_at "runc") => `(tactic| (repeat (first | walk_at "s" | walk_at "comp")); try walk_at "env")
/-- as run, but stops ahead of an if -/
local macro_rules | `(tactic| walk_at "runI") => `(tactic| (repeat ((fail_if_success (with_reducible refine' i_if ?_)); walk_at "s")); try walk_at "env")
namespace Lib
open PySem
/-- is_tied: slots 0 web:r, 1 a:r, 2 b:r; modes ['rd', 'rd', 'rd']; answer fz -/
def wb_is_tiedI (S_tie_of : FS) : WS :=
  (wRet (wOp2 inD (wCall S_tie_of (waCons (wVar 1) (waCons (wVar 2) waNil))) (wOp2 ixD (wVar 0) (wC (.int 1)))))
def S_is_tiedI : FS := fun ds Post => ∃ w a b, ds = [dW w, .int a, .int b] ∧ Post (.bool (decide (pr a b ∈ w.ts)))
theorem m_is_tiedI {rk : RK} : ∀ ds Post, S_is_tiedI ds Post → wb_is_tiedI S_l_pair { nx := fun _ => Post .none ∧ rk = .fz, rt := fun d _ => Post d } (startE 3 ds) := by
  rintro ds Post ⟨w, a, b, rfl, hP⟩
  unfold wb_is_tiedI
  walk_at "start"
  walk_at "run"
  refine ⟨a, b, rfl, ?_⟩
  walk_at "run"
  exact hP
/-- a ring, as looked at -/
def RgI (w : Web) (r : List Int) : Prop := 3 ≤ r.length ∧ (∀ x ∈ r, 0 ≤ x ∧ x < w.n) ∧ r.Nodup ∧ ∀ z ∈ nexts r, pr z.1 z.2 ∈ w.ts
noncomputable instance (w : Web) (r : List Int) : Decidable (RgI w r) := Classical.propDecidable _
theorem pr_TI {w : Web} {a b : Int} (t : T w a b) (o : w.ok) : pr a b ∈ w.ts := by
  unfold pr
  rcases t with t | t
  · have := o.rg _ t
    simp only at this
    rw [if_neg (by omega), if_pos (by omega)]; exact t
  · have := o.rg _ t
    simp only at this
    rw [if_pos (by omega), if_neg (by omega)]; exact t
theorem RgI.of {w : Web} (o : w.ok) {r : List Int} (h : Rg' w r) : RgI w r := by
  refine ⟨h.l3, fun x hx => ?_, h.nd, fun z hz => pr_TI (h.td z hz) o⟩
  have : x ∈ (nexts r).map Prod.fst := by rw [nexts_fst]; exact hx
  obtain ⟨z, hz, rfl⟩ := List.mem_map.mp this
  have := (h.td z hz).rg o
  omega
/-- untied: slots 0 web:r, 1 a:r, 2 b:r, 3 tie:v; modes ['rd', 'rd', 'rd']; answer fz -/
def wb_untied (S_is_tied : FS) (S_tie_of : FS) : WS :=
  (wSeq (wIf (tNot (tVal (wCall S_is_tied (waCons (wVar 0) (waCons (wVar 1) (waCons (wVar 2) waNil)))))) wNever wNil)
    (wRet (wTup (waCons (wOp2 ixD (wVar 0) (wC (.int 0))) (waCons (wBlt tupD (waCons (wComp (wiSeq (wOp2 ixD (wVar 0) (wC (.int 1)))) (gN 3) [3] (tVal (wOp2 neD (wVar 3) (wCall S_tie_of (waCons (wVar 1) (waCons (wVar 2) waNil))))) (wVar 3)) waNil)) waNil)))))
def cutF (w : Web) (t : Int × Int) : Web := ⟨w.n, w.ts.filter fun u => !decide (u = t)⟩
def S_untied : FS := fun ds Post => ∃ w a b, ds = [dW w, .int a, .int b] ∧ w.ok ∧ pr a b ∈ w.ts ∧ Post (dW (cutF w (pr a b)))
theorem m_untied {rk : RK} : ∀ ds Post, S_untied ds Post → wb_untied S_is_tiedI S_l_pair { nx := fun _ => Post .none ∧ rk = .fz, rt := fun d _ => Post d } (startE 4 ds) := by
  rintro ds Post ⟨w, a, b, rfl, o, hm, hP⟩
  have h20 := o.len
  unfold wb_untied
  walk_at "start"
  walk_at "run"
  refine ⟨w, a, b, rfl, ?_⟩
  rw [decide_eq_true hm]
  walk_at "run"
  refine comp_fil (fun u => !decide (u = pr a b)) (fun u hu => ?_) ?_
  · refine ⟨_, rfl, fun R hR => ?_, fun _ R hR => ?_, rfl⟩
    · walk_at "run"
      refine ⟨_, _, rfl, ?_⟩
      walk_at "run"
      refine i_ex (show neD (dP u) (dP (pr a b)) = some (.bool (!decide (u = pr a b))) from by rw [neD_lay (lay_dP u) (lay_dP _), eqv_dP]) ?_
      exact ⟨_, rfl, hR⟩
    · walk_at "run"
      exact hR
  walk_at "run"
  exact hP
end Lib
end G7
set_option maxRecDepth 100000
namespace G7
open PySem PySem.Spec PyProof.Rows L2
end G7

namespace G7
namespace Lib
open PySem
end Lib
end G7

namespace G7
namespace Lib
open PySem
def leftF (ls : Ar) (l : List Int) : List Int := l.filter fun x => decide (x ∈ (ls.filter fun t => decide (t.1 ∈ l)).map (·.2))
theorem mem_left {ls : Ar} {l : List Int} {x : Int} : x ∈ leftF ls l ↔ x ∈ l ∧ ∃ a ∈ l, (a, x) ∈ ls := by
  unfold leftF
  simp only [List.mem_filter, decide_eq_true_eq, List.mem_map]
  refine and_congr_right fun _ => ⟨?_, ?_⟩
  · rintro ⟨⟨a, b⟩, ⟨h1, h2⟩, rfl⟩
    exact ⟨a, h2, h1⟩
  · rintro ⟨a, h1, h2⟩
    exact ⟨(a, x), ⟨h2, h1⟩, rfl⟩
theorem left_less {ls : Ar} (h : Acyc ls) {l : List Int} (ne : l ≠ []) : (leftF ls l).length < l.length := by
  obtain ⟨p, hp, hn⟩ := h.stuck ne
  have h1 := List.length_filter_le (fun x => decide (x ∈ (ls.filter fun t => decide (t.1 ∈ l)).map (·.2))) l
  rcases Nat.lt_or_ge (leftF ls l).length l.length with c | c
  · exact c
  · have e : leftF ls l = l := List.Sublist.eq_of_length_le (List.filter_sublist ..) c
    have : p ∈ leftF ls l := by rw [e]; exact hp
    obtain ⟨_, a, ha, hm⟩ := mem_left.mp this
    exact absurd hm (hn a ha)
/-- what was left behind by k turns -/
def LInv (ls : Ar) (n : Int) (k : Nat) (l : List Int) : Prop := (∀ x ∈ l, 0 ≤ x ∧ x < n) ∧ (Acyc ls → (l.length : Int) ≤ n - k ∨ l = []) ∧ ∃ h : Int → Int, (∀ x, x ∉ l → h x < k) ∧ ∀ t ∈ ls, t.2 ∉ l → t.1 ∉ l ∧ h t.1 < h t.2
theorem LInv.start {ls : Ar} {n : Int} (h0 : 0 ≤ n) (rg : ∀ t ∈ ls, (0 ≤ t.1 ∧ t.1 < n) ∧ 0 ≤ t.2 ∧ t.2 < n) : LInv ls n 0 (irng 0 n) := by
  refine ⟨fun x hx => mem_ints.mp hx, fun _ => .inl (by rw [ints_len]; omega), fun _ => -1, fun x _ => by simp only; omega, fun t ht c => absurd (mem_ints.mpr (rg t ht).2) c⟩
theorem LInv.step {ls : Ar} {n : Int} {k : Nat} {l : List Int} (i : LInv ls n k l) : LInv ls n (k + 1) (leftF ls l) := by
  obtain ⟨i1, i2, h, i4, i3⟩ := i
  refine ⟨fun x hx => i1 x (mem_left.mp hx).1, fun a => ?_, fun x => if x ∈ l then k else h x, fun x hx => ?_, fun t ht c => ?_⟩
  · by_cases e : l = []
    · right; rw [e]; rfl
    · left
      have := left_less a e
      rcases i2 a with c | c
      · omega
      · exact absurd c e
  · simp only
    by_cases c : x ∈ l
    · rw [if_pos c]; omega
    · rw [if_neg c]; have := i4 x c; omega
  · have h1 : t.1 ∉ l := fun m => by
      by_cases c2 : t.2 ∈ l
      · exact c (mem_left.mpr ⟨c2, t.1, m, ht⟩)
      · exact (i3 t ht c2).1 m
    refine ⟨fun m => h1 (mem_left.mp m).1, ?_⟩
    simp only; rw [if_neg h1]
    by_cases c2 : t.2 ∈ l
    · rw [if_pos c2]; exact i4 _ h1
    · rw [if_neg c2]; exact (i3 t ht c2).2
theorem LInv.end {ls : Ar} {n : Int} (h0 : 0 ≤ n) {l : List Int} (i : LInv ls n n.toNat l) : decide (l = []) = acB ls := by
  obtain ⟨i1, i2, h, i4, i3⟩ := i
  unfold acB
  refine decide_eq_decide.mpr ⟨fun e => ⟨h, fun t ht => (i3 t ht (by rw [e]; simp)).2⟩, fun a => ?_⟩
  rcases i2 a with c | c
  · exact List.eq_nil_of_length_eq_zero (by omega)
  · exact c
theorem isH_down {ls : Ar} {n : Int} {h : Int → Int} (rg : ∀ t ∈ ls, (0 ≤ t.1 ∧ t.1 < n) ∧ 0 ≤ t.2 ∧ t.2 < n) (i : IsH ls (fun q => 0 ≤ q ∧ q < n) h) : ∀ (d : Nat) {x : Int}, (0 ≤ x ∧ x < n) → ∀ m : Int, 0 ≤ m → m + d = h x → ∃ y, (0 ≤ y ∧ y < n) ∧ h y = m
  | 0, x, hx, m, m0, e => ⟨x, hx, by omega⟩
  | d + 1, x, hx, m, m0, e => by
    rcases i.at' x hx with c | ⟨a, ha, c⟩
    · omega
    · exact isH_down rg i d (x := a) (rg _ ha).1 m m0 (by omega)
theorem isH_lt {ls : Ar} {n : Int} {h : Int → Int} (rg : ∀ t ∈ ls, (0 ≤ t.1 ∧ t.1 < n) ∧ 0 ≤ t.2 ∧ t.2 < n) (i : IsH ls (fun q => 0 ≤ q ∧ q < n) h) {x : Int} (hx : 0 ≤ x ∧ x < n) : h x < n := by
  have key : ∀ m ∈ irng 0 (h x + 1), ∃ y, (0 ≤ y ∧ y < n) ∧ h y = m := fun m hm => by
    have := mem_ints.mp hm
    exact isH_down rg i (h x - m).toNat hx m this.1 (by omega)
  have h0 := i.nn x hx
  let g : Int → Int := fun m => if c : m ∈ irng 0 (h x + 1) then (key m c).choose else 0
  have hg : ∀ m ∈ irng 0 (h x + 1), (0 ≤ g m ∧ g m < n) ∧ h (g m) = m := fun m hm => by
    have : g m = (key m hm).choose := dif_pos hm
    rw [this]; exact (key m hm).choose_spec
  have hnd : ((irng 0 (h x + 1)).map g).Nodup := by
    rw [List.Nodup, List.pairwise_map]
    have hs : (irng 0 (h x + 1)).Pairwise (· < ·) := ints_sorted _ _
    refine (List.pairwise_iff_forall_sublist.mpr fun {a b} hab e => ?_)
    have ha := hab.mem (by simp : a ∈ [a, b])
    have hb := hab.mem (by simp : b ∈ [a, b])
    have hlt := List.pairwise_iff_forall_sublist.mp hs hab
    have e1 := (hg a ha).2
    have e2 := (hg b hb).2
    rw [e, e2] at e1
    omega
  have := nodup_le hnd (m := irng 0 n) fun y hy => by
    obtain ⟨m, hm, rfl⟩ := List.mem_map.mp hy
    exact mem_ints.mpr (hg m hm).1
  rw [List.length_map, ints_len, ints_len] at this
  omega
/-- raised by k turns, and now along the arrows of pre -/
structure HInv (ls : Ar) (n : Int) (H : Int → Int) (k : Nat) (pre : Ar) (hs : List Int) : Prop where
  len : (hs.length : Int) = n
  rg : ∀ q, 0 ≤ q → q < n → 0 ≤ gI hs q ∧ gI hs q ≤ H q ∧ ((k : Int) ≤ gI hs q ∨ gI hs q = H q)
  sub : ∀ t ∈ pre, t ∈ ls
  now : ∀ t ∈ pre, H t.1 = H t.2 - 1 → (k : Int) + 1 ≤ gI hs t.2 ∨ gI hs t.2 = H t.2
theorem HInv.start {ls : Ar} {n : Int} {H : Int → Int} (n0 : 0 ≤ n) (i : IsH ls (fun q => 0 ≤ q ∧ q < n) H) : HInv ls n H 0 [] (List.replicate n.toNat 0) := by
  refine ⟨by rw [List.length_replicate]; omega, fun q q0 q1 => ?_, by simp, by simp⟩
  have e : gI (List.replicate n.toNat (0 : Int)) q = 0 := by
    unfold gI
    rw [getElem!_pos _ _ (by rw [List.length_replicate]; omega), List.getElem_replicate]
  have := i.nn q ⟨q0, q1⟩
  rw [e]; omega
theorem HInv.put {ls : Ar} {n : Int} {H : Int → Int} {k : Nat} {pre : Ar} {hs : List Int} (rg : ∀ t ∈ ls, (0 ≤ t.1 ∧ t.1 < n) ∧ 0 ≤ t.2 ∧ t.2 < n) (i : IsH ls (fun q => 0 ≤ q ∧ q < n) H) (j : HInv ls n H k pre hs) {t : Int × Int} (ht : t ∈ ls) {v : Int} (hv : v = if gI hs t.1 + 1 > gI hs t.2 then gI hs t.1 + 1 else gI hs t.2) : HInv ls n H k (pre ++ [t]) (hs.set t.2.toNat v) := by
  have hr := rg t ht
  have hl := j.len
  have hup := i.up t.1 t.2 ht hr.2
  have h1 := j.rg t.1 hr.1.1 hr.1.2
  have h2 := j.rg t.2 hr.2.1 hr.2.2
  have hge : gI hs t.2 ≤ v ∧ gI hs t.1 + 1 ≤ v ∧ (v = gI hs t.2 ∨ v = gI hs t.1 + 1) := by rw [hv]; split <;> omega
  have hg : ∀ q, 0 ≤ q → q < n → gI (hs.set t.2.toNat v) q = if q = t.2 then v else gI hs q := fun q q0 q1 => by
    unfold gI
    by_cases e : q = t.2
    · subst e
      rw [if_pos rfl, getElem!_pos _ _ (by rw [List.length_set]; omega), List.getElem_set_self]
    · rw [if_neg e, getElem!_pos _ _ (by rw [List.length_set]; omega), getElem!_pos _ _ (by omega), List.getElem_set_ne (by omega)]
  have hsub : ∀ u ∈ pre ++ [t], u ∈ ls := fun u hu => by
    rcases List.mem_append.mp hu with hu | hu
    · exact j.sub u hu
    · simp only [List.mem_singleton] at hu
      subst hu; exact ht
  refine ⟨by rw [List.length_set]; exact hl, fun q q0 q1 => ?_, hsub, fun u hu e => ?_⟩
  · rw [hg q q0 q1]
    split
    · next c => subst c; omega
    · exact j.rg q q0 q1
  · have hur := (rg u (hsub u hu)).2
    rw [hg u.2 hur.1 hur.2]
    rcases List.mem_append.mp hu with hu | hu
    · have old := j.now u hu e
      split
      · next c => rw [c] at old ⊢; omega
      · exact old
    · simp only [List.mem_singleton] at hu
      subst hu
      rw [if_pos rfl]
      omega
theorem HInv.next {ls : Ar} {n : Int} {H : Int → Int} {k : Nat} {hs : List Int} (i : IsH ls (fun q => 0 ≤ q ∧ q < n) H) (j : HInv ls n H k ls hs) : HInv ls n H (k + 1) [] hs := by
  refine ⟨j.len, fun q q0 q1 => ?_, by simp, by simp⟩
  have h1 := j.rg q q0 q1
  rcases i.at' q ⟨q0, q1⟩ with c | ⟨a, ha, c⟩
  · omega
  · have := j.now _ ha c
    simp only at this
    omega
theorem HInv.end {ls : Ar} {n : Int} {H : Int → Int} {hs : List Int} (n0 : 0 ≤ n) (rg : ∀ t ∈ ls, (0 ≤ t.1 ∧ t.1 < n) ∧ 0 ≤ t.2 ∧ t.2 < n) (i : IsH ls (fun q => 0 ≤ q ∧ q < n) H) (j : HInv ls n H n.toNat [] hs) : IsH ls (fun q => 0 ≤ q ∧ q < n) (gI hs) := by
  have e : ∀ q, 0 ≤ q → q < n → gI hs q = H q := fun q q0 q1 => by
    have := j.rg q q0 q1
    have := isH_lt rg i ⟨q0, q1⟩
    omega
  refine ⟨fun q hq => by rw [e q hq.1 hq.2]; exact i.nn q hq, fun a q ha hq => ?_, fun q hq => ?_⟩
  · have hr := (rg _ ha).1
    rw [e q hq.1 hq.2, e a hr.1 hr.2]; exact i.up a q ha hq
  · rw [e q hq.1 hq.2]
    rcases i.at' q hq with c | ⟨a, ha, c⟩
    · exact .inl c
    · have hr := (rg _ ha).1
      exact .inr ⟨a, ha, by rw [e a hr.1 hr.2]; exact c⟩
end Lib
end G7

namespace G7
namespace Lib
open PySem
/-- turned but for one place, in a web in one piece -/
structure Seat (w : Web) (p : List Int) (s : Int) (q row cs : List Int) : Prop where
  go : turnsGo w p row = some q
  no : s ∉ row
  len : (cs.length : Int) = w.n
  cnt : ∀ v, 0 ≤ v → v < w.n → gI cs v = (row.count v : Int)
theorem Seat.start {w : Web} {p : List Int} {s : Int} (n0 : 0 ≤ w.n) : Seat w p s p [] (List.replicate w.n.toNat 0) := by
  refine ⟨rfl, by simp, by rw [List.length_replicate]; omega, fun v v0 v1 => ?_⟩
  unfold gI
  rw [getElem!_pos _ _ (by rw [List.length_replicate]; omega), List.getElem_replicate]; simp
theorem Seat.norm {w : Web} {p : List Int} {s : Int} {q row cs : List Int} (i : Seat w p s q row cs) (o : w.ok) (h : whole w) (hp : isP w p) (ap : Acyc (arw w p)) (s0 : 0 ≤ s) (s1 : s < w.n) : Norm w p q cs := by
  have hl := i.len
  obtain ⟨hq, aq, f, rg⟩ := go_fit o hp ap i.go
  refine ⟨hl, f.congr o fun x x0 x1 => (i.cnt x x0 x1).symm, fun x hx => ?_, fun x x0 x1 => ⟨s, h x s x0 x1 s0 s1, ?_⟩⟩
  · obtain ⟨k, hk, rfl⟩ := List.getElem_of_mem hx
    have := i.cnt k (by omega) (by omega)
    unfold gI at this
    rw [Int.toNat_natCast, getElem!_pos cs k hk] at this
    omega
  · rw [i.cnt s s0 s1, List.count_eq_zero_of_not_mem i.no]; rfl
theorem Seat.step {w : Web} {p : List Int} {s : Int} {q row cs : List Int} (i : Seat w p s q row cs) {v : Int} (hv : v ∈ sprF w q) (ne : v ≠ s) : Seat w p s (abtF w q v) (row ++ [v]) (cs.set v.toNat (gI cs v + 1)) := by
  have hr := (spr_mem.mp hv).1
  have hl := i.len
  refine ⟨?_, by simp [i.no, Ne.symm ne], by rw [List.length_set]; exact hl, fun x x0 x1 => ?_⟩
  · rw [turnsGo_app i.go]
    unfold turnsGo
    rw [if_pos hv]; rfl
  · rw [gI_set hr.1 x0 (by omega), List.count_append, i.cnt x x0 x1, i.cnt v hr.1 hr.2]
    by_cases e : x = v
    · subst e; rw [if_pos rfl]; simp
    · rw [if_neg e]
      have : List.count x [v] = 0 := by rw [List.count_eq_zero]; simp [e]
      omega
theorem Seat.sum {w : Web} {p : List Int} {s : Int} {q row cs : List Int} (i : Seat w p s q row cs) (o : w.ok) (h : whole w) (hp : isP w p) (ap : Acyc (arw w p)) (s0 : 0 ≤ s) (s1 : s < w.n) : 0 ≤ sumI cs ∧ sumI cs ≤ 100 := by
  have g := go_fit o hp ap i.go
  have n := i.norm o h hp ap s0 s1
  exact ⟨(sumI_pos n.nn).1, n.sum o hp g.1 ap g.2.1⟩
theorem Seat.only {w : Web} {q : List Int} {s : Int} (o : w.ok) (aq : Acyc (arw w q)) (e : ((sprF w q).filter fun x => !decide (x = s)) = []) : sprF w q = [s] := by
  have n1 := o.n1
  have hall : ∀ x ∈ sprF w q, x = s := fun x hx => by
    have := List.filter_eq_nil_iff.mp e x hx
    simpa using this
  obtain ⟨z, hz, hn⟩ := aq.stuck (l := irng 0 w.n) (fun c => by have := congrArg List.length c; rw [ints_len] at this; simp at this; omega)
  have hz2 : z ∈ sprF w q := spr_mem.mpr ⟨mem_ints.mp hz, fun t ht e => by
    have hr := arw_rg o t ht
    refine hn t.1 (mem_ints.mpr hr.1) ?_
    have : t = (t.1, z) := Prod.ext rfl e
    rw [← this]; exact ht⟩
  have hnd : (sprF w q).Pairwise (· < ·) := (ints_sorted _ _).filter _
  refine strict_ext hnd (by simp) fun x => ⟨fun hx => by simp [hall x hx], fun hx => ?_⟩
  simp at hx; subst hx
  rw [← hall z hz2]; exact hz2
end Lib
end G7

namespace G7
namespace Lib
open PySem
theorem gI_map {f : Int → Int} {n x : Int} (x0 : 0 ≤ x) (x1 : x < n) : gI ((irng 0 n).map f) x = f x := by
  unfold gI
  have h : x.toNat < (irng 0 n).length := by rw [ints_len]; omega
  have e : (irng 0 n)[x.toNat]'h = x := by
    have := gI_irng x0 x1
    unfold gI at this
    rwa [getElem!_pos (irng 0 n) x.toNat h] at this
  rw [getElem!_pos ((irng 0 n).map f) x.toNat (by rw [List.length_map]; exact h), List.getElem_map, e]
end Lib
end G7

set_option maxRecDepth 100000
namespace G7
open PySem PySem.Spec PyProof.Rows L2
def cast0 : D → D
  | .dict [(.none, .tuple ds)] => if frzOk ds = true then .tuple ds else xtD ds
  | d => d
/-- only of a pair with such a tuple -/
def castD : D → D
  | .tuple [.int n, .dict [(.none, .tuple ds)]] => .tuple [.int n, cast0 (xtD ds)]
  | d => d
section
variable {K : PySem.W.Frag} {H : Hp} {S : Addr → Prop}
theorem Rep.cast0 {v : V} {ds : List D} (r : Rep K H S v (xtD ds)) : Rep K H S v (cast0 (xtD ds)) := by
  show Rep K H S v (if frzOk ds = true then .tuple ds else xtD ds)
  split
  · next c =>
    obtain ⟨a, o, xs, rfl, n, e, ed, z, al⟩ := Rep.toXt r
    exact .tup n (.inr ⟨c, o, e, ed⟩) z al
  · exact r
theorem Rep.cast {v : V} {d : D} (r : Rep K H S v d) : Rep K H S v (castD d) := by
  unfold castD
  split
  · cases r with
    | tup n r z al =>
      cases al with
      | cons r1 t =>
        cases t with
        | cons r2 t2 =>
          have r3 := Rep.cast0 r2
          refine .tup n (r.imp (fun q => ⟨q.1, q.2⟩) fun q => ?_) z (.cons r1 (.cons r3 t2))
          exact ⟨by simpa [frzOk, frzOk0] using q.1, q.2⟩
  · exact r
end
def toX : D → D
  | .tuple xs => xtD xs
  | d => d
def wXt (w : WE) : WE := fun e Q => w e fun d e1 => Q (toX d) e1
section
variable {K : PySem.W.Frag} {H : Hp} {S : Addr → Prop}
theorem Rep.toX (hF : ∀ n, tupF n = true) {v : V} {d : D} (r : Rep K H S v d) : Rep K H S v (toX d) := by
  unfold G7.toX
  split
  · rename_i xs
    cases r with
    | tup n q z al =>
      rcases q with ⟨p, _⟩ | ⟨_, o, e, ed⟩
      · unfold plOk at p
        rw [hF] at p; cases p
      · exact .xt n e ed z al
  · exact r
end
end G7

set_option maxRecDepth 100000
namespace G7
open PySem
namespace Lib
theorem i_xt {w : WE} {e : En} {Q : D → En → Prop} (k : w e fun d e1 => Q (toX d) e1) : wXt w e Q := k
theorem i_idxX {xs : List D} {R : Prop} (k : R) : ((∃ ys, toX (.tuple xs) = .list ys) ∨ ∃ ys, toX (.tuple xs) = xtD ys) ∧ R := ⟨.inr ⟨xs, rfl⟩, k⟩
theorem indexD_Xi {l : List Int} {k : Int} (h : k ∈ l) : indexD (toX (TI l)) (.int k) = some (.int (l.idxOf k : Int)) := indexD_xi h
def placeB (n : Int) : D → Bool
  | .int i => decide (0 ≤ i) && decide (i < n)
  | _ => false
theorem tyD_nint {x : D} (h : (tyD x == "int") = false) (n : Int) : placeB n x = false := by
  cases x <;> first | rfl | (exfalso; simp [tyD] at h)
end Lib
end G7

set_option maxRecDepth 100000
namespace G7
open PySem
namespace Lib
end Lib
end G7

set_option maxRecDepth 100000
namespace G7
open PySem
namespace Lib
theorem Gr.left {ls : Ar} {l0 o l : List Int} (g : Gr ls l0 o l) (nd : l0.Nodup) : l = l0.filter fun q => !decide (q ∈ o) := by
  induction g with
  | nil => exact (List.filter_eq_self.mpr fun _ _ => by simp).symm
  | @snoc o l r p g h ih =>
    have ndl : l.Nodup := by rw [ih]; exact nd.filter _
    rw [ndl.erase_eq_filter]
    rw [ih, List.filter_filter]
    congr 1
    funext q
    by_cases c : q = p
    · subst c; simp
    · simp [c]
inductive Wk (ls : Ar) (l : List Int) : List Int → Int → Prop
  | nil : Wk ls l [] (gI l 0)
  | snoc {w : List Int} {h : Int} : Wk ls l w h → h ∉ w → Wk ls l (w ++ [h]) (gI (befF ls h l) 0)
theorem Wk.one {ls : Ar} {l : List Int} : ∀ {w w' : List Int} {h h' : Int}, Wk ls l w h → Wk ls l w' h' → w.length = w'.length → w = w' ∧ h = h' := by
  intro w w' h h' g
  induction g generalizing w' h' with
  | nil =>
    intro g' e
    cases g' with
    | nil => exact ⟨rfl, rfl⟩
    | snoc _ _ => simp at e
  | @snoc w h g _ ih =>
    intro g' e
    cases g' with
    | nil => simp at e
    | @snoc w2 h2 g2 _ =>
      obtain ⟨rfl, rfl⟩ := ih g2 (by simpa using e)
      exact ⟨rfl, rfl⟩
theorem Wk.cut {ls : Ar} {l : List Int} : ∀ {w : List Int} {h : Int}, Wk ls l w h → ∀ k, k < w.length → ∃ v g, Wk ls l v g ∧ g ∉ v ∧ v.length = k := by
  intro w h g
  induction g with
  | nil => intro k hk; simp at hk
  | @snoc w h g n ih =>
    intro k hk
    by_cases c : k < w.length
    · exact ih k c
    · rw [List.length_append, List.length_singleton] at hk
      exact ⟨w, h, g, n, by omega⟩
def RW (ls : Ar) (l r : List Int) : Prop := ∃ w h, Wk ls l w h ∧ h ∈ w ∧ r = (w.drop (w.idxOf h)).reverse
theorem RW.one {ls : Ar} {l r r' : List Int} (a : RW ls l r) (b : RW ls l r') : r = r' := by
  obtain ⟨w, h, g, hm, rfl⟩ := a
  obtain ⟨w', h', g', hm', rfl⟩ := b
  have : w.length = w'.length := by
    rcases Nat.lt_trichotomy w.length w'.length with c | c | c
    · obtain ⟨v, u, gv, nu, hv⟩ := g'.cut _ c
      obtain ⟨rfl, rfl⟩ := gv.one g hv
      exact absurd hm nu
    · exact c
    · obtain ⟨v, u, gv, nu, hv⟩ := g.cut _ c
      obtain ⟨rfl, rfl⟩ := gv.one g' hv
      exact absurd hm' nu
  obtain ⟨rfl, rfl⟩ := g.one g' this
  rfl
def RL (ls : Ar) (l0 r : List Int) : Prop := ∃ o l, Gr ls l0 o l ∧ (l.filter fun q => decide (befF ls q l = [])) = [] ∧ l ≠ [] ∧ RW ls l r
theorem Gr.cut {ls : Ar} {l0 : List Int} : ∀ {o l : List Int}, Gr ls l0 o l → ∀ k, k < o.length → ∃ o' l', Gr ls l0 o' l' ∧ (l'.filter fun q => decide (befF ls q l' = [])) ≠ [] ∧ o'.length = k := by
  intro o l g
  induction g with
  | nil => intro k hk; simp at hk
  | @snoc o l r p g h ih =>
    intro k hk
    by_cases c : k < o.length
    · exact ih k c
    · rw [List.length_append, List.length_singleton] at hk
      exact ⟨o, l, g, by rw [h]; simp, by omega⟩
theorem RL.one {ls : Ar} {l0 r r' : List Int} (a : RL ls l0 r) (b : RL ls l0 r') : r = r' := by
  obtain ⟨o, l, g, hf, _, rw1⟩ := a
  obtain ⟨o', l', g', hf', _, rw2⟩ := b
  have : o.length = o'.length := by
    rcases Nat.lt_trichotomy o.length o'.length with c | c | c
    · obtain ⟨v, u, gv, nu, hv⟩ := g'.cut _ c
      obtain ⟨rfl, rfl⟩ := gv.one g hv
      exact absurd hf nu
    · exact c
    · obtain ⟨v, u, gv, nu, hv⟩ := g.cut _ c
      obtain ⟨rfl, rfl⟩ := gv.one g' hv
      exact absurd hf' nu
  obtain ⟨rfl, rfl⟩ := g.one g' this
  exact rw1.one rw2
end Lib
end G7

set_option maxRecDepth 100000
namespace G7
open PySem

local macro_rules | `(tactic| walk_at "op") => `(tactic| first
  | with_reducible exact addD_i _ _ | with_reducible exact subD_i _ _ | with_reducible exact ltD_i _ _ | with_reducible exact leD_i _ _ | with_reducible exact gtD_i _ _ | with_reducible exact geD_i _ _
  | with_reducible exact eqD_i _ _ | with_reducible exact neD_i _ _ | with_reducible exact lenD_lm | with_reducible exact lenD_tm | with_reducible exact lenD_l _ | with_reducible exact lenD_t _ | with_reducible exact dP_0 _ | with_reducible exact dP_1 _
  | with_reducible exact ixD_t0 _ _ | with_reducible exact ixD_t1 _ _ _ | with_reducible exact ixD_t2 _ _ _ _ | with_reducible exact ixD_l0 _ _ | with_reducible exact ixD_l0m | with_reducible exact ixD_t0m | exact eqD_sT | exact eqD_sF | exact neD_sT | exact neD_sF | with_reducible exact ixD_l1 _ _ _
  | with_reducible exact Lib.dW_0 _ | with_reducible exact Lib.dW_1 _ | with_reducible exact tupD_l _ | with_reducible exact tupD_t _ | with_reducible exact lstD_l _ | with_reducible exact lstD_t _ | with_reducible exact max2D_i _ _ | with_reducible exact min2D_i _ _
  | with_reducible exact isTD_i | with_reducible exact revT_m | with_reducible exact slL_m1 | with_reducible exact tupRevD_m | ((with_reducible refine' indexD_li ?_); with_reducible assumption) | ((with_reducible refine' indexD_xi ?_); with_reducible assumption) | ((with_reducible refine' Lib.indexD_Xi ?_); with_reducible assumption) | with_reducible exact isTD_s _ _ | with_reducible exact powD_6 | with_reducible exact powD_16 | with_reducible exact powD_18 | with_reducible exact isTD_t _ _ | with_reducible exact isTD_l _ _ | with_reducible exact isTD_b _ _ | with_reducible exact isTD_n _ | with_reducible exact isD_bb _ _ | with_reducible exact isNotD_bb _ _ | with_reducible exact isD_n' () | with_reducible exact isD_lN _ | with_reducible exact isD_tN _ | with_reducible exact isNotD_lN _ | with_reducible exact isNotD_tN _ | with_reducible exact intD_b _ | with_reducible exact intD_i _ | with_reducible exact negD_i _ | with_reducible exact eqD_b _ _ | with_reducible exact neD_b _ _
  | with_reducible exact neD_l0 _ | with_reducible exact eqD_l0 _ | with_reducible exact eqD_li _ _ | with_reducible exact neD_li _ _ | with_reducible exact eqD_ti _ _ | with_reducible exact neD_ti _ _
  | with_reducible exact eqD_lp _ _ | with_reducible exact neD_lp _ _ | with_reducible exact eqD_tp _ _ | with_reducible exact neD_tp _ _
  | with_reducible exact inD_li _ _ | with_reducible exact inD_ti _ _ | with_reducible exact notInD_li _ _ | with_reducible exact notInD_ti _ _ | with_reducible exact inD_lp _ _ | with_reducible exact inD_tp _ _
  | with_reducible exact notInD_lp _ _ | with_reducible exact notInD_tp _ _ | with_reducible exact inD_lp' _ _ _ | with_reducible exact inD_tp' _ _ _ | with_reducible exact notInD_lp' _ _ _ | with_reducible exact notInD_tp' _ _ _
  | with_reducible exact inD_pair _ _ _ | with_reducible exact sortedAD_i _ | with_reducible exact sortedAD_p _ | with_reducible exact allD_b _ | with_reducible exact anyD_b _
  | ((with_reducible refine' addD_1m ?_); omega) | with_reducible exact Lib.maxAD_0 _ | with_reducible exact Lib.din_dI _ _ | with_reducible exact Lib.dinTD_p _ _ | with_reducible exact Lib.dninTD_p _ _ | with_reducible exact Lib.lenTD_p _ | with_reducible exact Lib.sortTLD_p _ | with_reducible exact Lib.dnin_dI _ _ | ((with_reducible apply Lib.dget_dI); with_reducible assumption) | ((with_reducible refine' repLD_0 ?_ ?_) <;> omega) | ((with_reducible refine' slT_tom ?_); omega) | ((with_reducible refine' slT_frm ?_); omega) | ((with_reducible refine' slL_tom ?_); omega) | ((with_reducible refine' slL_frm ?_); omega) | ((with_reducible refine' modD_i ?_); omega) | ((with_reducible refine' fdivD_i ?_ ?_) <;> omega) | ((with_reducible refine' mulID_i (okMul_l ?_ ?_)) <;> omega) | ((with_reducible refine' mulID_i (okMul_r ?_ ?_)) <;> omega)
  | ((with_reducible refine' ixD_lm ?_ ?_) <;> omega) | ((with_reducible refine' ixD_tm ?_ ?_) <;> omega) | with_reducible assumption)
local macro_rules | `(tactic| walk_at "env") => `(tactic| simp only [List.set_cons_zero, List.set_cons_succ, upd, wp_cons, wp_nil, back_cons, back_nil, List.getElem?_cons_zero, List.getElem?_cons_succ, Option.getD_some, toF])
local macro_rules | `(tactic| walk_at "cond") => `(tactic| first | assumption | omega | exact rfl | (focus (simp; done)))
local macro_rules | `(tactic| walk_at "mut") => `(tactic| first | ((with_reducible refine' popAtF_m ?_ ?_) <;> omega) | ((with_reducible refine' appendF_m ?_); first | omega | (simp only [List.length_append, List.length_map, List.length_cons, List.length_nil]; omega)) | ((with_reducible refine' removeF_i ?_); (first | assumption | (simp; done))) | ((with_reducible refine' extendF_m ?_); first | omega | (simp only [List.length_append, List.length_map, List.length_cons, List.length_nil]; omega)))
local macro_rules | `(tactic| walk_at "s") => `(tactic| first
  | with_reducible refine' i_seq ?_ | ((with_reducible apply i_frz); (exact rfl); (first | exact nt_l | exact nt_d)) | ((with_reducible apply i_asV); (exact rfl)) | ((with_reducible apply i_asO); (exact rfl); (first | exact nt_l | exact nt_d)) | with_reducible refine' i_op2 ?_ | with_reducible refine' i_acons ?_ | with_reducible refine' i_anil ?_ | ((with_reducible apply i_var); exact rfl) | with_reducible refine' i_c ?_
  | with_reducible refine' i_asg ?_ | with_reducible refine' i_par ?_ | with_reducible refine' i_par2 ?_ | with_reducible refine' i_call ?_ | with_reducible refine' i_blt ?_ | with_reducible refine' i_op1 ?_ | with_reducible refine' i_tup ?_ | with_reducible refine' i_list ?_
  | ((with_reducible apply i_ex); walk_at "op") | ((with_reducible apply i_exk); walk_at "op")
  | with_reducible refine' i_val ?_ | with_reducible refine' i_exb ?_ | with_reducible refine' i_if ?_ | with_reducible refine' i_ret ?_ | with_reducible refine' i_nil ?_
  | with_reducible refine' i_T ?_ | with_reducible refine' i_F ?_ | with_reducible refine' i_tand ?_ | with_reducible refine' i_tor ?_ | with_reducible refine' i_tnot ?_ | with_reducible refine' i_yes ?_
  | with_reducible refine' i_and ?_ | with_reducible refine' i_or ?_ | with_reducible refine' i_not ?_ | with_reducible refine' i_ife ?_ | with_reducible refine' i_chain ?_
  | with_reducible refine' i_comp ?_ | with_reducible refine' i_iseq ?_ | with_reducible refine' i_irg1 ?_ | with_reducible refine' i_irg2 ?_ | with_reducible refine' i_izip ?_ | with_reducible refine' i_lstZ ?_ | with_reducible refine' i_lzT ?_ | with_reducible refine' i_lzL ?_ | with_reducible refine' i_disp1 ?_ | with_reducible refine' i_keyI ?_ | with_reducible refine' i_zipT ?_ | with_reducible refine' i_zipL ?_ | with_reducible refine' i_ienum ?_ | ((with_reducible apply i_enum); exact rfl) | with_reducible refine' i_irev ?_
  | with_reducible refine' i_for ?_ | with_reducible refine' i_lstrg ?_ | with_reducible refine' i_asgG ?_ | with_reducible refine' i_asgP ?_ | with_reducible refine' i_expr ?_ | with_reducible refine' i_retN ?_ | with_reducible refine' i_brk ?_ | with_reducible refine' i_cnt ?_
  | with_reducible refine' i_on ?_ | with_reducible refine' i_os ?_ | with_reducible refine' i_sl ?_ | ((with_reducible apply i_exl); exact rfl)
  | ((with_reducible refine' i_rg1 ?_ ?_); (constructor <;> omega)) | ((with_reducible refine' i_rg2 ?_ ?_); (refine ⟨?_, ?_, ?_, ?_⟩ <;> omega))
  | with_reducible refine' i_exi ?_
  | (with_reducible refine' i_len (Nat.le_of_ble_eq_true rfl) ?_)
  | ((with_reducible apply i_g); exact rfl) | ((with_reducible refine' i_plix ?_ ?_); exact rfl) | with_reducible refine' i_plset ?_ | with_reducible refine' i_np ?_
  | with_reducible refine' Lib.i_xt ?_ | with_reducible refine' Lib.i_idxX ?_ | with_reducible refine' i_idxL ?_ | with_reducible refine' i_idl ?_ | with_reducible refine' i_idx ?_
  | ((with_reducible apply i_mut1); (exact rfl); walk_at "mut")
  | ((with_reducible apply Lib.i_keysT); exact rfl) | (with_reducible refine' Lib.i_dputT ?_) | ((with_reducible apply Lib.i_dputT0); exact rfl) | ((with_reducible apply Lib.i_dputT1); (exact rfl); omega)
  | (with_reducible refine' Lib.i_dput ?_) | ((with_reducible apply Lib.i_dput0); exact rfl) | ((with_reducible apply Lib.i_dput1); (exact rfl); omega)
  | ((with_reducible refine' i_dT ?_ ?_); walk_at "cond") | ((with_reducible refine' i_dF ?_ ?_); walk_at "cond") | ((with_reducible refine' i_ndT ?_ ?_); walk_at "cond") | ((with_reducible refine' i_ndF ?_ ?_); walk_at "cond")
  | ((with_reducible refine' i_bT ?_ ?_); (first | with_reducible assumption | exact rfl)) | ((with_reducible refine' i_bF ?_ ?_); (first | with_reducible assumption | exact rfl))
  | ((with_reducible apply i_setixm); (exact rfl); omega; omega) | (with_reducible refine' i_setix ?_) | ((with_reducible apply i_setix0); exact rfl) | ((with_reducible apply i_mut); exact rfl))
local macro_rules | `(tactic| walk_at "run") => `(tactic| (repeat (walk_at "s")); try walk_at "env")
local macro_rules | `(tactic| walk_at "start") => `(tactic| simp only [startE, List.map_cons, List.map_nil, List.length_cons, List.length_nil, Nat.reduceAdd, Nat.reduceSub, Nat.zero_add, List.replicate_succ, List.replicate_zero, List.cons_append, List.nil_append])
local macro_rules | `(tactic| walk_at "len") => `(tactic| first | omega | (simp only [List.length_map, List.length_append, List.length_cons, List.length_nil]; omega) | (refine Nat.le_trans ?_ (Nat.le_refl _); have := List.length_filter_le; simp_all; done))
local macro_rules | `(tactic| walk_at "opl") => `(tactic| first | ((with_reducible refine' addD_lm ?_); walk_at "len") | ((with_reducible refine' addD_tm ?_); walk_at "len") | ((with_reducible refine' addLD_lm ?_); walk_at "len"))
/-- a comprehension: of what is walked itself, of ints, pairs, truths -/
local macro_rules | `(tactic| walk_at "comp") => `(tactic| first
  | (refine comp_fil ?_ (fun x hx => ?_) ?_; rotate_left 1; focus ((try have hx1 := Fact.use (by assumption) hx); (try have hx2 := mem_ints.mp hx); (try dsimp only at hx1); refine ⟨_, rfl, fun R hR => ?_, fun hp R hR => ?_, rfl⟩ <;> (repeat (walk_at "s")) <;> exact hR))
  | (refine comp_all (en2 := PySem.PyData.int) ?_ (fun x hx => ?_) ?_; rotate_left 1; focus ((try have hx1 := Fact.use (by assumption) hx); (try have hx2 := mem_ints.mp hx); (try dsimp only at hx1); refine ⟨_, rfl, fun R hR => ?_, rfl⟩ <;> (repeat (walk_at "s")) <;> exact hR))
  | (refine comp_all (en2 := PySem.PyData.bool) ?_ (fun x hx => ?_) ?_; rotate_left 1; focus ((try have hx1 := Fact.use (by assumption) hx); (try have hx2 := mem_ints.mp hx); (try dsimp only at hx1); refine ⟨_, rfl, fun R hR => ?_, rfl⟩ <;> (repeat (walk_at "s")) <;> exact hR))
  | (refine comp_all (en2 := dP) ?_ (fun x hx => ?_) ?_; rotate_left 1; focus ((try have hx1 := Fact.use (by assumption) hx); (try have hx2 := mem_ints.mp hx); (try dsimp only at hx1); refine ⟨_, rfl, fun R hR => ?_, rfl⟩ <;> (repeat (walk_at "s")) <;> exact hR))
  | (refine comp_el (en2 := PySem.PyData.int) ?_ ?_ (fun x hx => ?_) ?_; rotate_left 2; focus ((try have hx1 := Fact.use (by assumption) hx); (try have hx2 := mem_ints.mp hx); (try dsimp only at hx1); refine ⟨_, rfl, fun R hR => ?_, fun hp R hR => ?_, rfl⟩ <;> (repeat (walk_at "s")) <;> exact hR))
  | (refine comp_el (en2 := dP) ?_ ?_ (fun x hx => ?_) ?_; rotate_left 2; focus ((try have hx1 := Fact.use (by assumption) hx); (try have hx2 := mem_ints.mp hx); (try dsimp only at hx1); refine ⟨_, rfl, fun R hR => ?_, fun hp R hR => ?_, rfl⟩ <;> (repeat (walk_at "s")) <;> exact hR))
  | (refine comp_el (en2 := PySem.PyData.bool) ?_ ?_ (fun x hx => ?_) ?_; rotate_left 2; focus ((try have hx1 := Fact.use (by assumption) hx); (try have hx2 := mem_ints.mp hx); (try dsimp only at hx1); refine ⟨_, rfl, fun R hR => ?_, fun hp R hR => ?_, rfl⟩ <;> (repeat (walk_at "s")) <;> exact hR))
  | (refine comp_allD (en2 := PySem.PyData.int) ?_ (fun x hx => ?_) ?_; rotate_left 1; focus ((try have hx1 := Fact.use (by assumption) hx); (try dsimp only at hx1); refine ⟨_, rfl, fun R hR => ?_, rfl⟩ <;> (repeat (walk_at "s")) <;> exact hR))
  | (refine comp_allD (en2 := PySem.PyData.bool) ?_ (fun x hx => ?_) ?_; rotate_left 1; focus ((try have hx1 := Fact.use (by assumption) hx); (try dsimp only at hx1); refine ⟨_, rfl, fun R hR => ?_, rfl⟩ <;> (repeat (walk_at "s")) <;> exact hR)))
local macro_rules | `(tactic| walk_at "runc") => `(tactic| (repeat (first | walk_at "s" | walk_at "comp")); try walk_at "env")
/-- as run, but stops ahead of an if -/
local macro_rules | `(tactic| walk_at "runI") => `(tactic| (repeat ((fail_if_success (with_reducible refine' i_if ?_)); walk_at "s")); try walk_at "env")
open PySem
namespace Lib
theorem Gr.srt {ls : Ar} {l0 o l : List Int} (g : Gr ls l0 o l) (h : l0.Pairwise (· < ·)) : l.Pairwise (· < ·) := by
  induction g with
  | nil => exact h
  | snoc g hf ih => exact ih.sublist List.erase_sublist
def withW (w : Web) (t : Int × Int) : Web := ⟨w.n, psort (w.ts ++ [t])⟩
theorem withW_ok {w : Web} (o : w.ok) {t : Int × Int} (h : 0 ≤ t.1 ∧ t.1 < t.2 ∧ t.2 < w.n) (hn : t ∉ w.ts) (hl : w.ts.length < 20) : (withW w t).ok := by
  refine good.web ⟨?_, fun u hu => ?_⟩ o.n1 o.n9 (by rw [List.length_append, List.length_singleton]; omega)
  · have nd : w.ts.Nodup := List.nodup_iff_pairwise_ne.mpr (o.srt.imp fun {a b} h e => by subst e; unfold lexP at h; omega)
    rw [List.nodup_append]
    refine ⟨nd, by simp, fun a ha b hb => ?_⟩
    simp at hb; subst hb
    intro e; subst e; exact hn ha
  · rcases List.mem_append.mp hu with hu | hu
    · exact o.rg u hu
    · simp at hu; subst hu; exact h
theorem withW_cut {w : Web} (o : w.ok) {t : Int × Int} : (withW w t).ts.idxOf t ≤ w.ts.length ∧ (withW w t).ts = w.ts.take ((withW w t).ts.idxOf t) ++ t :: w.ts.drop ((withW w t).ts.idxOf t) := by
  have hp : (withW w t).ts.Perm (w.ts ++ [t]) := psort_perm _
  have hm : t ∈ (withW w t).ts := hp.mem_iff.mpr (by simp)
  have hl := List.idxOf_lt_length_of_mem hm
  have hle : (withW w t).ts.Pairwise leP := psort_sorted _
  have hws : w.ts.Pairwise leP := o.srt.imp fun {a b} h => by unfold lexP at h; unfold leP; omega
  have e : (withW w t).ts.eraseIdx ((withW w t).ts.idxOf t) = w.ts := by
    refine psort_one ?_ (hle.sublist (List.eraseIdx_sublist ..)) hws
    have h1 : ((withW w t).ts.erase t).Perm w.ts := by
      have h2 : (withW w t).ts.Perm (t :: w.ts) := hp.trans (List.perm_append_singleton _ _)
      have := h2.erase t
      simpa using this
    rwa [List.erase_eq_eraseIdx_of_idxOf rfl] at h1
  have hlen : (withW w t).ts.length = w.ts.length + 1 := by rw [hp.length_eq]; simp
  refine ⟨by omega, ?_⟩
  generalize hk : (withW w t).ts.idxOf t = k at *
  generalize hL : (withW w t).ts = L at *
  have hg : L[k] = t := by
    have := List.getElem_idxOf (xs := L) (x := t) (by rw [hk]; exact hl)
    rw [← this]; congr 1; exact hk.symm
  rw [← e]
  rw [List.eraseIdx_eq_take_drop_succ]
  have ht : (L.take k).length = k := by rw [List.length_take]; omega
  rw [List.take_append_of_le_length (by omega), List.take_take, Nat.min_self, List.drop_append_of_le_length (by omega), List.drop_take_self, List.nil_append]
  conv => lhs; rw [← List.take_append_drop k L, List.drop_eq_getElem_cons hl, hg]
theorem sortedTD_p (ps : List (Int × Int)) : sortedTD [.tuple (ps.map dP)] = some (.list ((psort ps).map dP)) := by
  simp only [sortedTD, pairsD_dP, Option.map_some]
/-- with_tie: slots 0 web:r, 1 a:r, 2 b:r; modes ['rd', 'rd', 'rd']; answer fz -/
def wb_with_tie (S_tie_of : FS) : WS :=
  (wRet (wTup (waCons (wOp2 ixD (wVar 0) (wC (.int 0))) (waCons (wBlt tupD (waCons (wBlt sortedTD (waCons (wOp2 addD (wOp2 ixD (wVar 0) (wC (.int 1))) (wTup (waCons (wCall S_tie_of (waCons (wVar 1) (waCons (wVar 2) waNil))) waNil))) waNil)) waNil)) waNil))))
def S_with_tie : FS := fun ds Post => ∃ w a b, ds = [dW w, .int a, .int b] ∧ w.ok ∧ a < b ∧ Post (dW (withW w (a, b)))
theorem m_with_tie {rk : RK} : ∀ ds Post, S_with_tie ds Post → wb_with_tie S_l_pair { nx := fun _ => Post .none ∧ rk = .fz, rt := fun d _ => Post d } (startE 3 ds) := by
  rintro ds Post ⟨w, a, b, rfl, o, hab, hP⟩
  have h20 := o.len
  unfold wb_with_tie
  walk_at "start"
  walk_at "run"
  refine ⟨a, b, rfl, ?_⟩
  have e : pr a b = (a, b) := by unfold pr; rw [if_neg (by omega), if_pos (by omega)]
  rw [e]
  walk_at "run"
  refine ⟨_, addD_tm1 (by omega), ?_⟩
  walk_at "run"
  refine ⟨_, sortedTD_p _, ?_⟩
  walk_at "run"
  exact hP
/-- tied: slots 0 web:r, 1 a:r, 2 b:r; modes ['rd', 'rd', 'rd']; answer fz -/
def wb_tied (S_is_tied : FS) (S_with_tie : FS) : WS :=
  (wSeq (wIf (tVal (wCall S_is_tied (waCons (wVar 0) (waCons (wVar 1) (waCons (wVar 2) waNil))))) wNever wNil)
    (wSeq (wIf (tVal (wOp2 eqD (wBlt lenD (waCons (wOp2 ixD (wVar 0) (wC (.int 1))) waNil)) (wC (.int 20)))) wNever wNil)
    (wRet (wCall S_with_tie (waCons (wVar 0) (waCons (wVar 1) (waCons (wVar 2) waNil)))))))
def S_tied : FS := fun ds Post => ∃ w a b, ds = [dW w, .int a, .int b] ∧ w.ok ∧ a < b ∧ (a, b) ∉ w.ts ∧ w.ts.length < 20 ∧ Post (dW (withW w (a, b)))
theorem m_tied {rk : RK} : ∀ ds Post, S_tied ds Post → wb_tied S_is_tiedI S_with_tie { nx := fun _ => Post .none ∧ rk = .fz, rt := fun d _ => Post d } (startE 3 ds) := by
  rintro ds Post ⟨w, a, b, rfl, o, hab, hn, hl, hP⟩
  unfold wb_tied
  walk_at "start"
  walk_at "run"
  have e : pr a b = (a, b) := by unfold pr; rw [if_neg (by omega), if_pos (by omega)]
  refine ⟨w, a, b, rfl, ?_⟩
  rw [e]
  walk_at "run"
  refine ⟨w, a, b, rfl, o, hab, ?_⟩
  walk_at "run"
  exact hP
end Lib
end G7
set_option maxRecDepth 100000
namespace G7
open PySem PySem.Spec PyProof.Rows L2
end G7

set_option maxRecDepth 100000
namespace G7
open PySem
namespace Lib
structure Wf (w : Web) : Prop where
  n1 : 1 ≤ w.n
  n9 : w.n ≤ 9
  rg : ∀ t ∈ w.ts, 0 ≤ t.1 ∧ t.1 < t.2 ∧ t.2 < w.n
  srt : w.ts.Pairwise lexP
theorem wf_of {w : Web} (o : w.ok) : Wf w := ⟨o.n1, o.n9, o.rg, o.srt⟩
def Col (w : Web) (k : Int) (h : List Int) : Prop := (h.length : Int) = w.n ∧ hok w h = true ∧ ∀ x ∈ h, 0 ≤ x ∧ x < k
theorem Col.mono {w : Web} {k j : Int} {h : List Int} (c : Col w k h) (hj : k ≤ j) : Col w j h := ⟨c.1, c.2.1, fun x hx => by have := c.2.2 x hx; omega⟩
/-- how many numbers are used -/
def usedN (b : List Int) : Int := (maxI b).getD (-1) + 1
structure Bg (w : Web) (k : Int) (b : List Int) : Prop where
  len : (b.length : Int) ≤ w.n
  rg : ∀ x ∈ b, 0 ≤ x ∧ x < k ∧ x < usedN b
  all : ∀ y, 0 ≤ y → y < usedN b → y ∈ b
  ok : ∀ t ∈ w.ts, t.2 < (b.length : Int) → gI b t.1 ≠ gI b t.2
theorem used_nil : usedN [] = 0 := rfl
theorem maxI_app (b : List Int) (x : Int) : maxI (b ++ [x]) = some (max ((maxI b).getD x) x) := by
  cases b with
  | nil => simp [maxI]
  | cons y b => simp [maxI, List.foldl_append]
theorem gI_app1 {b : List Int} {x i : Int} (h0 : 0 ≤ i) (h1 : i < (b.length : Int)) : gI (b ++ [x]) i = gI b i := by
  unfold gI
  rw [getElem!_pos _ _ (by rw [List.length_append]; omega), getElem!_pos _ _ (by omega), List.getElem_append_left (by omega)]
theorem gI_app2 {b : List Int} {x : Int} : gI (b ++ [x]) (b.length : Int) = x := by
  unfold gI
  rw [getElem!_pos _ _ (by rw [List.length_append]; simp)]
  simp
theorem Bg.nil {w : Web} (o : Wf w) (k : Int) : Bg w k [] := by
  have n1 := o.n1
  refine ⟨by simp; omega, by simp, fun y h0 h1 => ?_, fun t ht h => ?_⟩
  · rw [used_nil] at h1; omega
  · have := o.rg t ht
    simp at h; omega
theorem used_app {w : Web} {k : Int} {b : List Int} (g : Bg w k b) {x : Int} (h0 : 0 ≤ x) (h1 : x ≤ usedN b) : usedN (b ++ [x]) = if x = usedN b then usedN b + 1 else usedN b := by
  have e1 : usedN (b ++ [x]) = max ((maxI b).getD x) x + 1 := by unfold usedN; rw [maxI_app]; rfl
  have e2 : max ((maxI b).getD x) x + 1 = if x = usedN b then usedN b + 1 else usedN b := by
    by_cases e : x = usedN b
    · rw [if_pos e]
      cases b with
      | nil => rw [used_nil] at e; subst e; rfl
      | cons y b =>
        have : usedN (y :: b) = b.foldl max y + 1 := rfl
        show max (b.foldl max y) x + 1 = _
        rw [Int.max_def]
        split <;> omega
    · rw [if_neg e]
      cases b with
      | nil => rw [used_nil] at e h1; omega
      | cons y b =>
        have : usedN (y :: b) = b.foldl max y + 1 := rfl
        show max (b.foldl max y) x + 1 = _
        rw [Int.max_def]
        split <;> omega
  rw [e1, e2]
theorem Bg.snoc {w : Web} (o : Wf w) {k : Int} {b : List Int} (g : Bg w k b) (hl : (b.length : Int) < w.n) {x : Int} (h0 : 0 ≤ x) (h1 : x ≤ usedN b) (hk : x < k) (hb : ∀ q, T w q (b.length : Int) → 0 ≤ q → q < (b.length : Int) → gI b q ≠ x) : Bg w k (b ++ [x]) := by
  have hu := used_app g h0 h1
  refine ⟨by rw [List.length_append, List.length_singleton]; omega, fun y hy => ?_, fun y y0 y1 => ?_, fun t ht hlt => ?_⟩
  · rw [hu]
    rcases List.mem_append.mp hy with hy | hy
    · have := g.rg y hy
      split <;> omega
    · simp at hy; subst hy
      refine ⟨h0, hk, ?_⟩
      split <;> omega
  · rw [hu] at y1
    by_cases e : x = usedN b
    · rw [if_pos e] at y1
      by_cases e2 : y = usedN b
      · rw [e2, ← e]; simp
      · exact List.mem_append_left _ (g.all y y0 (by omega))
    · rw [if_neg e] at y1
      exact List.mem_append_left _ (g.all y y0 y1)
  · have hr := o.rg t ht
    rw [List.length_append, List.length_singleton] at hlt
    by_cases e : t.2 = (b.length : Int)
    · rw [e, gI_app2, gI_app1 hr.1 (by omega)]
      exact hb t.1 (.inl (by rw [← e]; exact ht)) hr.1 (by omega)
    · rw [gI_app1 hr.1 (by omega), gI_app1 (by omega) (by omega)]
      exact g.ok t ht (by omega)
end Lib
end G7

set_option maxRecDepth 100000
namespace G7
open PySem
namespace Lib
end Lib
end G7

set_option maxRecDepth 100000
namespace G7
open PySem

local macro_rules | `(tactic| walk_at "op") => `(tactic| first
  | with_reducible exact addD_i _ _ | with_reducible exact subD_i _ _ | with_reducible exact ltD_i _ _ | with_reducible exact leD_i _ _ | with_reducible exact gtD_i _ _ | with_reducible exact geD_i _ _
  | with_reducible exact eqD_i _ _ | with_reducible exact neD_i _ _ | with_reducible exact lenD_lm | with_reducible exact lenD_tm | with_reducible exact lenD_l _ | with_reducible exact lenD_t _ | with_reducible exact dP_0 _ | with_reducible exact dP_1 _
  | with_reducible exact ixD_t0 _ _ | with_reducible exact ixD_t1 _ _ _ | with_reducible exact ixD_t2 _ _ _ _ | with_reducible exact ixD_l0 _ _ | with_reducible exact ixD_l0m | with_reducible exact ixD_t0m | exact eqD_sT | exact eqD_sF | exact neD_sT | exact neD_sF | with_reducible exact ixD_l1 _ _ _
  | with_reducible exact Lib.dW_0 _ | with_reducible exact Lib.dW_1 _ | with_reducible exact tupD_l _ | with_reducible exact tupD_t _ | with_reducible exact lstD_l _ | with_reducible exact lstD_t _ | with_reducible exact max2D_i _ _ | with_reducible exact min2D_i _ _
  | with_reducible exact isTD_i | with_reducible exact revT_m | with_reducible exact slL_m1 | with_reducible exact tupRevD_m | ((with_reducible refine' indexD_li ?_); with_reducible assumption) | ((with_reducible refine' indexD_xi ?_); with_reducible assumption) | ((with_reducible refine' Lib.indexD_Xi ?_); with_reducible assumption) | with_reducible exact isTD_s _ _ | with_reducible exact powD_6 | with_reducible exact powD_16 | with_reducible exact powD_18 | with_reducible exact isTD_t _ _ | with_reducible exact isTD_l _ _ | with_reducible exact isTD_b _ _ | with_reducible exact isTD_n _ | with_reducible exact isD_bb _ _ | with_reducible exact isNotD_bb _ _ | with_reducible exact isD_n' () | with_reducible exact isD_lN _ | with_reducible exact isD_tN _ | with_reducible exact isNotD_lN _ | with_reducible exact isNotD_tN _ | with_reducible exact intD_b _ | with_reducible exact intD_i _ | with_reducible exact negD_i _ | with_reducible exact eqD_b _ _ | with_reducible exact neD_b _ _
  | with_reducible exact neD_l0 _ | with_reducible exact eqD_l0 _ | with_reducible exact eqD_li _ _ | with_reducible exact neD_li _ _ | with_reducible exact eqD_ti _ _ | with_reducible exact neD_ti _ _
  | with_reducible exact eqD_lp _ _ | with_reducible exact neD_lp _ _ | with_reducible exact eqD_tp _ _ | with_reducible exact neD_tp _ _
  | with_reducible exact inD_li _ _ | with_reducible exact inD_ti _ _ | with_reducible exact notInD_li _ _ | with_reducible exact notInD_ti _ _ | with_reducible exact inD_lp _ _ | with_reducible exact inD_tp _ _
  | with_reducible exact notInD_lp _ _ | with_reducible exact notInD_tp _ _ | with_reducible exact inD_lp' _ _ _ | with_reducible exact inD_tp' _ _ _ | with_reducible exact notInD_lp' _ _ _ | with_reducible exact notInD_tp' _ _ _
  | with_reducible exact inD_pair _ _ _ | with_reducible exact sortedAD_i _ | with_reducible exact sortedAD_p _ | with_reducible exact allD_b _ | with_reducible exact anyD_b _
  | ((with_reducible refine' addD_1m ?_); omega) | with_reducible exact Lib.maxAD_0 _ | with_reducible exact Lib.din_dI _ _ | with_reducible exact Lib.dinTD_p _ _ | with_reducible exact Lib.dninTD_p _ _ | with_reducible exact Lib.lenTD_p _ | with_reducible exact Lib.sortTLD_p _ | with_reducible exact Lib.dnin_dI _ _ | ((with_reducible apply Lib.dget_dI); with_reducible assumption) | ((with_reducible refine' repLD_0 ?_ ?_) <;> omega) | ((with_reducible refine' slT_tom ?_); omega) | ((with_reducible refine' slT_frm ?_); omega) | ((with_reducible refine' slL_tom ?_); omega) | ((with_reducible refine' slL_frm ?_); omega) | ((with_reducible refine' modD_i ?_); omega) | ((with_reducible refine' fdivD_i ?_ ?_) <;> omega) | ((with_reducible refine' mulID_i (okMul_l ?_ ?_)) <;> omega) | ((with_reducible refine' mulID_i (okMul_r ?_ ?_)) <;> omega)
  | ((with_reducible refine' ixD_lm ?_ ?_) <;> omega) | ((with_reducible refine' ixD_tm ?_ ?_) <;> omega) | with_reducible assumption)
local macro_rules | `(tactic| walk_at "env") => `(tactic| simp only [List.set_cons_zero, List.set_cons_succ, upd, wp_cons, wp_nil, back_cons, back_nil, List.getElem?_cons_zero, List.getElem?_cons_succ, Option.getD_some, toF])
local macro_rules | `(tactic| walk_at "cond") => `(tactic| first | assumption | omega | exact rfl | (focus (simp; done)))
local macro_rules | `(tactic| walk_at "mut") => `(tactic| first | ((with_reducible refine' popAtF_m ?_ ?_) <;> omega) | ((with_reducible refine' appendF_m ?_); first | omega | (simp only [List.length_append, List.length_map, List.length_cons, List.length_nil]; omega)) | ((with_reducible refine' removeF_i ?_); (first | assumption | (simp; done))) | ((with_reducible refine' extendF_m ?_); first | omega | (simp only [List.length_append, List.length_map, List.length_cons, List.length_nil]; omega)))
local macro_rules | `(tactic| walk_at "s") => `(tactic| first
  | with_reducible refine' i_seq ?_ | ((with_reducible apply i_frz); (exact rfl); (first | exact nt_l | exact nt_d)) | ((with_reducible apply i_asV); (exact rfl)) | ((with_reducible apply i_asO); (exact rfl); (first | exact nt_l | exact nt_d)) | with_reducible refine' i_op2 ?_ | with_reducible refine' i_acons ?_ | with_reducible refine' i_anil ?_ | ((with_reducible apply i_var); exact rfl) | with_reducible refine' i_c ?_
  | with_reducible refine' i_asg ?_ | with_reducible refine' i_par ?_ | with_reducible refine' i_par2 ?_ | with_reducible refine' i_call ?_ | with_reducible refine' i_blt ?_ | with_reducible refine' i_op1 ?_ | with_reducible refine' i_tup ?_ | with_reducible refine' i_list ?_
  | ((with_reducible apply i_ex); walk_at "op") | ((with_reducible apply i_exk); walk_at "op")
  | with_reducible refine' i_val ?_ | with_reducible refine' i_exb ?_ | with_reducible refine' i_if ?_ | with_reducible refine' i_ret ?_ | with_reducible refine' i_nil ?_
  | with_reducible refine' i_T ?_ | with_reducible refine' i_F ?_ | with_reducible refine' i_tand ?_ | with_reducible refine' i_tor ?_ | with_reducible refine' i_tnot ?_ | with_reducible refine' i_yes ?_
  | with_reducible refine' i_and ?_ | with_reducible refine' i_or ?_ | with_reducible refine' i_not ?_ | with_reducible refine' i_ife ?_ | with_reducible refine' i_chain ?_
  | with_reducible refine' i_comp ?_ | with_reducible refine' i_iseq ?_ | with_reducible refine' i_irg1 ?_ | with_reducible refine' i_irg2 ?_ | with_reducible refine' i_izip ?_ | with_reducible refine' i_lstZ ?_ | with_reducible refine' i_lzT ?_ | with_reducible refine' i_lzL ?_ | with_reducible refine' i_disp1 ?_ | with_reducible refine' i_keyI ?_ | with_reducible refine' i_zipT ?_ | with_reducible refine' i_zipL ?_ | with_reducible refine' i_ienum ?_ | ((with_reducible apply i_enum); exact rfl) | with_reducible refine' i_irev ?_
  | with_reducible refine' i_for ?_ | with_reducible refine' i_lstrg ?_ | with_reducible refine' i_asgG ?_ | with_reducible refine' i_asgP ?_ | with_reducible refine' i_expr ?_ | with_reducible refine' i_retN ?_ | with_reducible refine' i_brk ?_ | with_reducible refine' i_cnt ?_
  | with_reducible refine' i_on ?_ | with_reducible refine' i_os ?_ | with_reducible refine' i_sl ?_ | ((with_reducible apply i_exl); exact rfl)
  | ((with_reducible refine' i_rg1 ?_ ?_); (constructor <;> omega)) | ((with_reducible refine' i_rg2 ?_ ?_); (refine ⟨?_, ?_, ?_, ?_⟩ <;> omega))
  | with_reducible refine' i_exi ?_
  | (with_reducible refine' i_len (Nat.le_of_ble_eq_true rfl) ?_)
  | ((with_reducible apply i_g); exact rfl) | ((with_reducible refine' i_plix ?_ ?_); exact rfl) | with_reducible refine' i_plset ?_ | with_reducible refine' i_np ?_
  | with_reducible refine' Lib.i_xt ?_ | with_reducible refine' Lib.i_idxX ?_ | with_reducible refine' i_idxL ?_ | with_reducible refine' i_idl ?_ | with_reducible refine' i_idx ?_
  | ((with_reducible apply i_mut1); (exact rfl); walk_at "mut")
  | ((with_reducible apply Lib.i_keysT); exact rfl) | (with_reducible refine' Lib.i_dputT ?_) | ((with_reducible apply Lib.i_dputT0); exact rfl) | ((with_reducible apply Lib.i_dputT1); (exact rfl); omega)
  | (with_reducible refine' Lib.i_dput ?_) | ((with_reducible apply Lib.i_dput0); exact rfl) | ((with_reducible apply Lib.i_dput1); (exact rfl); omega)
  | ((with_reducible refine' i_dT ?_ ?_); walk_at "cond") | ((with_reducible refine' i_dF ?_ ?_); walk_at "cond") | ((with_reducible refine' i_ndT ?_ ?_); walk_at "cond") | ((with_reducible refine' i_ndF ?_ ?_); walk_at "cond")
  | ((with_reducible refine' i_bT ?_ ?_); (first | with_reducible assumption | exact rfl)) | ((with_reducible refine' i_bF ?_ ?_); (first | with_reducible assumption | exact rfl))
  | ((with_reducible apply i_setixm); (exact rfl); omega; omega) | (with_reducible refine' i_setix ?_) | ((with_reducible apply i_setix0); exact rfl) | ((with_reducible apply i_mut); exact rfl))
local macro_rules | `(tactic| walk_at "run") => `(tactic| (repeat (walk_at "s")); try walk_at "env")
local macro_rules | `(tactic| walk_at "start") => `(tactic| simp only [startE, List.map_cons, List.map_nil, List.length_cons, List.length_nil, Nat.reduceAdd, Nat.reduceSub, Nat.zero_add, List.replicate_succ, List.replicate_zero, List.cons_append, List.nil_append])
local macro_rules | `(tactic| walk_at "len") => `(tactic| first | omega | (simp only [List.length_map, List.length_append, List.length_cons, List.length_nil]; omega) | (refine Nat.le_trans ?_ (Nat.le_refl _); have := List.length_filter_le; simp_all; done))
local macro_rules | `(tactic| walk_at "opl") => `(tactic| first | ((with_reducible refine' addD_lm ?_); walk_at "len") | ((with_reducible refine' addD_tm ?_); walk_at "len") | ((with_reducible refine' addLD_lm ?_); walk_at "len"))
/-- a comprehension: of what is walked itself, of ints, pairs, truths -/
local macro_rules | `(tactic| walk_at "comp") => `(tactic| first
  | (refine comp_fil ?_ (fun x hx => ?_) ?_; rotate_left 1; focus ((try have hx1 := Fact.use (by assumption) hx); (try have hx2 := mem_ints.mp hx); (try dsimp only at hx1); refine ⟨_, rfl, fun R hR => ?_, fun hp R hR => ?_, rfl⟩ <;> (repeat (walk_at "s")) <;> exact hR))
  | (refine comp_all (en2 := PySem.PyData.int) ?_ (fun x hx => ?_) ?_; rotate_left 1; focus ((try have hx1 := Fact.use (by assumption) hx); (try have hx2 := mem_ints.mp hx); (try dsimp only at hx1); refine ⟨_, rfl, fun R hR => ?_, rfl⟩ <;> (repeat (walk_at "s")) <;> exact hR))
  | (refine comp_all (en2 := PySem.PyData.bool) ?_ (fun x hx => ?_) ?_; rotate_left 1; focus ((try have hx1 := Fact.use (by assumption) hx); (try have hx2 := mem_ints.mp hx); (try dsimp only at hx1); refine ⟨_, rfl, fun R hR => ?_, rfl⟩ <;> (repeat (walk_at "s")) <;> exact hR))
  | (refine comp_all (en2 := dP) ?_ (fun x hx => ?_) ?_; rotate_left 1; focus ((try have hx1 := Fact.use (by assumption) hx); (try have hx2 := mem_ints.mp hx); (try dsimp only at hx1); refine ⟨_, rfl, fun R hR => ?_, rfl⟩ <;> (repeat (walk_at "s")) <;> exact hR))
  | (refine comp_el (en2 := PySem.PyData.int) ?_ ?_ (fun x hx => ?_) ?_; rotate_left 2; focus ((try have hx1 := Fact.use (by assumption) hx); (try have hx2 := mem_ints.mp hx); (try dsimp only at hx1); refine ⟨_, rfl, fun R hR => ?_, fun hp R hR => ?_, rfl⟩ <;> (repeat (walk_at "s")) <;> exact hR))
  | (refine comp_el (en2 := dP) ?_ ?_ (fun x hx => ?_) ?_; rotate_left 2; focus ((try have hx1 := Fact.use (by assumption) hx); (try have hx2 := mem_ints.mp hx); (try dsimp only at hx1); refine ⟨_, rfl, fun R hR => ?_, fun hp R hR => ?_, rfl⟩ <;> (repeat (walk_at "s")) <;> exact hR))
  | (refine comp_el (en2 := PySem.PyData.bool) ?_ ?_ (fun x hx => ?_) ?_; rotate_left 2; focus ((try have hx1 := Fact.use (by assumption) hx); (try have hx2 := mem_ints.mp hx); (try dsimp only at hx1); refine ⟨_, rfl, fun R hR => ?_, fun hp R hR => ?_, rfl⟩ <;> (repeat (walk_at "s")) <;> exact hR))
  | (refine comp_allD (en2 := PySem.PyData.int) ?_ (fun x hx => ?_) ?_; rotate_left 1; focus ((try have hx1 := Fact.use (by assumption) hx); (try dsimp only at hx1); refine ⟨_, rfl, fun R hR => ?_, rfl⟩ <;> (repeat (walk_at "s")) <;> exact hR))
  | (refine comp_allD (en2 := PySem.PyData.bool) ?_ (fun x hx => ?_) ?_; rotate_left 1; focus ((try have hx1 := Fact.use (by assumption) hx); (try dsimp only at hx1); refine ⟨_, rfl, fun R hR => ?_, rfl⟩ <;> (repeat (walk_at "s")) <;> exact hR)))
local macro_rules | `(tactic| walk_at "runc") => `(tactic| (repeat (first | walk_at "s" | walk_at "comp")); try walk_at "env")
/-- as run, but stops ahead of an if -/
local macro_rules | `(tactic| walk_at "runI") => `(tactic| (repeat ((fail_if_success (with_reducible refine' i_if ?_)); walk_at "s")); try walk_at "env")
open PySem
namespace Lib
def dpl (x a b : Int) : Int := if x = b then a else x - if decide (b < x) = true then 1 else 0
/-- drawn_place: slots 0 place:r, 1 a:v, 2 b:r; modes ['rd', 'fz', 'rd']; answer fz -/
def wb_drawn_place : WS :=
  (wSeq (wIf (tVal (wOp2 eqD (wVar 0) (wVar 2))) (wRet (wVar 1)) wNil)
    (wRet (wOp2 subD (wVar 0) (wBlt intD (waCons (wOp2 gtD (wVar 0) (wVar 2)) waNil)))))
def S_drawn_place : FS := fun ds Post => ∃ x a b : Int, ds = [.int x, .int a, .int b] ∧ Post (.int (dpl x a b))
theorem m_drawn_place {rk : RK} : ∀ ds Post, S_drawn_place ds Post → wb_drawn_place { nx := fun _ => Post .none ∧ rk = .fz, rt := fun d _ => Post d } (startE 3 ds) := by
  rintro ds Post ⟨x, a, b, rfl, hP⟩
  unfold wb_drawn_place
  walk_at "start"
  unfold dpl at hP
  by_cases c : x = b
  · rw [if_pos c] at hP
    walk_at "run"
    exact hP
  · rw [if_neg c] at hP
    walk_at "run"
    exact hP
def drK (a b : Int) (ks : List (Int × Int)) (t : Int × Int) : List (Int × Int) := if (pr (dpl t.1 a b) (dpl t.2 a b)).1 = (pr (dpl t.1 a b) (dpl t.2 a b)).2 then ks else sput ks (pr (dpl t.1 a b) (dpl t.2 a b))
def drawnW (w : Web) (a b : Int) : Web := ⟨w.n - 1, psort (w.ts.foldl (drK a b) [])⟩
theorem drK_len (a b : Int) : ∀ (l : List (Int × Int)) (ks : List (Int × Int)), (l.foldl (drK a b) ks).length ≤ ks.length + l.length
  | [], ks => by simp
  | t :: l, ks => by
    rw [List.foldl_cons, List.length_cons]
    have h1 := drK_len a b l (drK a b ks t)
    have h2 : (drK a b ks t).length ≤ ks.length + 1 := by
      unfold drK
      split
      · omega
      · exact len_sput _ _
    omega
theorem drK_nd (a b : Int) : ∀ (l : List (Int × Int)) (ks : List (Int × Int)), ks.Nodup → (l.foldl (drK a b) ks).Nodup
  | [], ks, h => h
  | t :: l, ks, h => by
    rw [List.foldl_cons]
    refine drK_nd a b l _ ?_
    unfold drK
    split
    · exact h
    · exact nodup_sput h
theorem drK_mem (a b : Int) {u : Int × Int} : ∀ (l : List (Int × Int)) (ks : List (Int × Int)), u ∈ l.foldl (drK a b) ks ↔ u ∈ ks ∨ ∃ t ∈ l, pr (dpl t.1 a b) (dpl t.2 a b) = u ∧ u.1 ≠ u.2
  | [], ks => by simp
  | t :: l, ks => by
    rw [List.foldl_cons, drK_mem a b l]
    unfold drK
    by_cases c : (pr (dpl t.1 a b) (dpl t.2 a b)).1 = (pr (dpl t.1 a b) (dpl t.2 a b)).2
    · rw [if_pos c]
      constructor
      · rintro (h | ⟨s, hs, h⟩)
        · exact .inl h
        · exact .inr ⟨s, by simp [hs], h⟩
      · rintro (h | ⟨s, hs, h1, h2⟩)
        · exact .inl h
        · rcases List.mem_cons.mp hs with rfl | hs
          · rw [← h1] at h2; exact absurd c h2
          · exact .inr ⟨s, hs, h1, h2⟩
    · rw [if_neg c, mem_sput]
      constructor
      · rintro ((rfl | h) | ⟨s, hs, h⟩)
        · exact .inr ⟨t, by simp, rfl, c⟩
        · exact .inl h
        · exact .inr ⟨s, by simp [hs], h⟩
      · rintro (h | ⟨s, hs, h1, h2⟩)
        · exact .inl (.inr h)
        · rcases List.mem_cons.mp hs with rfl | hs
          · exact .inl (.inl h1.symm)
          · exact .inr ⟨s, hs, h1, h2⟩
theorem drawn_mem {w : Web} {a b : Int} {u : Int × Int} : u ∈ (drawnW w a b).ts ↔ ∃ t ∈ w.ts, pr (dpl t.1 a b) (dpl t.2 a b) = u ∧ u.1 ≠ u.2 := by
  show u ∈ psort _ ↔ _
  rw [(psort_perm _).mem_iff, drK_mem]
  simp
theorem dpl_cases (x a b : Int) : (x = b ∧ dpl x a b = a) ∨ (x < b ∧ dpl x a b = x) ∨ (b < x ∧ dpl x a b = x - 1) := by
  unfold dpl
  by_cases c : x = b
  · rw [if_pos c]; exact .inl ⟨c, rfl⟩
  · rw [if_neg c]
    by_cases c2 : b < x
    · rw [if_pos (decide_eq_true c2)]; exact .inr (.inr ⟨c2, rfl⟩)
    · rw [if_neg (by simpa using c2)]; exact .inr (.inl ⟨by omega, by omega⟩)
theorem dpl_rg {n x a b : Int} (ha : 0 ≤ a) (hab : a < b) (hb : b < n) (h0 : 0 ≤ x) (h1 : x < n) : 0 ≤ dpl x a b ∧ dpl x a b < n - 1 := by
  rcases dpl_cases x a b with c | c | c <;> omega
theorem dpl_eq {x y a b : Int} (hab : a < b) (h : dpl x a b = dpl y a b) : x = y ∨ (x = a ∧ y = b) ∨ (x = b ∧ y = a) := by
  rcases dpl_cases x a b with c | c | c <;> rcases dpl_cases y a b with c2 | c2 | c2 <;> omega
theorem pr_two (x y : Int) : (pr x y = (x, y) ∧ x ≤ y) ∨ (pr x y = (y, x) ∧ y < x) := by
  unfold pr
  by_cases c : y < x
  · right
    rw [if_pos c, if_neg (by omega)]; exact ⟨rfl, c⟩
  · left
    rw [if_neg c]
    by_cases c2 : y > x
    · rw [if_pos c2]; exact ⟨rfl, by omega⟩
    · have : x = y := by omega
      subst this
      rw [if_neg c2]; exact ⟨rfl, by omega⟩
theorem drawn_wf {w : Web} (o : Wf w) {a b : Int} (ha : 0 ≤ a) (hab : a < b) (hb : b < w.n) : Wf (drawnW w a b) := by
  have n9 := o.n9
  refine ⟨by show 1 ≤ w.n - 1; omega, by show w.n - 1 ≤ 9; omega, fun u hu => ?_, psort_strict (drK_nd a b _ _ (by simp))⟩
  obtain ⟨t, ht, h1, h2⟩ := drawn_mem.mp hu
  have hr := o.rg t ht
  have g1 := dpl_rg ha hab hb hr.1 (by omega : t.1 < w.n)
  have g2 := dpl_rg ha hab hb (by omega : 0 ≤ t.2) hr.2.2
  show 0 ≤ u.1 ∧ u.1 < u.2 ∧ u.2 < w.n - 1
  rcases pr_two (dpl t.1 a b) (dpl t.2 a b) with ⟨e, c⟩ | ⟨e, c⟩ <;> rw [e] at h1 <;> subst h1 <;> simp only at h2 ⊢ <;> omega
/-- drawn: slots 0 web:r, 1 a:v, 2 b:r, 3 found:o, 4 one:v, 5 other:v, 6 tie:v; modes ['rd', 'fz', 'rd']; answer fz -/
def wb_drawn (S_tie_of : FS) (S_drawn_place : FS) : WS :=
  (wSeq (wAsg 3 (wC (dTD [])))
    (wSeq (wFor (wiSeq (wOp2 ixD (wVar 0) (wC (.int 1)))) (gT [(gN 4), (gN 5)]) (wSeq (wAsg 6 (wCall S_tie_of (waCons (wCall S_drawn_place (waCons (wVar 4) (waCons (wVar 1) (waCons (wVar 2) waNil)))) (waCons (wCall S_drawn_place (waCons (wVar 5) (waCons (wVar 1) (waCons (wVar 2) waNil)))) waNil))))
    (wIf (tVal (wOp2 neD (wOp2 ixD (wVar 6) (wC (.int 0))) (wOp2 ixD (wVar 6) (wC (.int 1))))) (wDputT 3 (wC (.bool true)) (wVar 6)) wNil)))
    (wRet (wTup (waCons (wOp2 subD (wOp2 ixD (wVar 0) (wC (.int 0))) (wC (.int 1))) (waCons (wBlt tupD (waCons (wBlt sortTLD (waCons (wVar 3) waNil)) waNil)) waNil))))))
def S_drawn : FS := fun ds Post => ∃ w a b, ds = [dW w, .int a, .int b] ∧ w.ts.length ≤ 1000 ∧ Post (dW (drawnW w a b))
theorem m_drawn {rk : RK} : ∀ ds Post, S_drawn ds Post → wb_drawn S_l_pair S_drawn_place { nx := fun _ => Post .none ∧ rk = .fz, rt := fun d _ => Post d } (startE 7 ds) := by
  rintro ds Post ⟨w, a, b, rfl, hl, hP⟩
  unfold wb_drawn
  walk_at "start"
  walk_at "run"
  refine for_st (enc := dP) [3, 4, 5, 6] (fun pre vs => ∃ (s1 s2 s3 : Option D), vs = [some (dTP (pre.foldl (drK a b) [])), s1, s2, s3]) [_, _, _, _] rfl ⟨_, _, _, rfl⟩ ?_ ?_
  · rintro pre t post _ hL ⟨s1, s2, s3, rfl⟩ R hR
    have hpl : pre.length < w.ts.length := by rw [hL]; simp
    have hkl := drK_len a b pre []
    rw [List.length_nil] at hkl
    walk_at "run"
    refine ⟨t.1, a, b, rfl, ?_⟩
    walk_at "run"
    refine ⟨t.2, a, b, rfl, ?_⟩
    walk_at "run"
    refine ⟨_, _, rfl, ?_⟩
    have hR1 := hR [some (dTP ((pre ++ [t]).foldl (drK a b) [])), some (.int t.1), some (.int t.2), some (dP (pr (dpl t.1 a b) (dpl t.2 a b)))] ⟨_, _, _, rfl⟩
    rw [List.foldl_append, List.foldl_cons, List.foldl_nil] at hR1
    unfold drK at hR1
    rw [show (fun ks t => if (pr (dpl t.1 a b) (dpl t.2 a b)).1 = (pr (dpl t.1 a b) (dpl t.2 a b)).2 then ks else sput ks (pr (dpl t.1 a b) (dpl t.2 a b))) = drK a b from rfl] at hR1
    by_cases c : (pr (dpl t.1 a b) (dpl t.2 a b)).1 = (pr (dpl t.1 a b) (dpl t.2 a b)).2
    · rw [if_pos c] at hR1
      walk_at "run"
      exact hR1
    · rw [if_neg c] at hR1
      walk_at "run"
      exact hR1
  · rintro _ ⟨s1, s2, s3, rfl⟩
    walk_at "run"
    exact hP
end Lib
end G7
set_option maxRecDepth 100000
namespace G7
open PySem PySem.Spec PyProof.Rows L2
end G7

set_option maxRecDepth 100000
namespace G7
open PySem PySem.Spec PyProof.Rows L2
def ArgM (K : PySem.W.Frag) (H : Hp) (S O P : Addr → Prop) (a : Addr) (m : Option PM) (v : V) (d : D) : Prop := match m with
  | none => v = .ref a ∧ Obj1 K H S a d
  | some .fz => Rep K H S v d
  | some .rd => Rep K H S v d ∨ ∃ b, v = .ref b ∧ ¬ P b ∧ O b ∧ ObjR K H S b d
  | some .pl => ∃ b, v = .ref b ∧ P b ∧ d = .none
def ArgsM (K : PySem.W.Frag) (H : Hp) (S O P : Addr → Prop) (a : Addr) : List (Option PM) → List V → List D → Prop
  | [], [], [] => True
  | m :: ms, v :: vs, d :: ds => ArgM K H S O P a m v d ∧ ArgsM K H S O P a ms vs ds
  | _, _, _ => False
theorem ArgsM.len {K : PySem.W.Frag} {H : Hp} {S O P : Addr → Prop} {a : Addr} : ∀ {ms : List (Option PM)} {vs : List V} {ds : List D}, ArgsM K H S O P a ms vs ds → vs.length = ms.length ∧ ds.length = ms.length
  | [], [], [], _ => ⟨rfl, rfl⟩
  | _ :: _, _ :: _, _ :: _, h => by have := ArgsM.len h.2; simp [this.1, this.2]
  | [], [], _ :: _, h => h.elim
  | [], _ :: _, _, h => h.elim
  | _ :: _, [], _, h => h.elim
  | _ :: _, _ :: _, [], h => h.elim
end G7

set_option maxRecDepth 100000
namespace G7
open PySem
namespace Lib
/-- row a times row b -/
def mulSt (z : Int × Int) (c : List Int) (y : Int × Int) : List Int := c.set (z.1 + y.1).toNat (gI c (z.1 + y.1) + z.2 * y.2)
def mulF (a b : List Int) : List Int := (enumL a).foldl (fun c z => (enumL b).foldl (mulSt z) c) (List.replicate (a.length + b.length - 1) 0)
def okS (w : Web) (p : Int) (s : List Int) : Bool := !(s.map fun q => decide (q ∈ nearF w p)).any id
def ptF : Nat → Web → List Int → List (List Int) → Mp → Mp
  | 0, _, _, _, m => m
  | _ + 1, _, [], ss, m => mput m ss.length (gM m ss.length + 1)
  | d + 1, w, p :: ps, ss, m => ptF d w ps (ss ++ [[p]]) ((enumL ss).foldl (fun m z => if okS w p z.2 = true then ptF d w ps (ss.take z.1.toNat ++ [z.2 ++ [p]] ++ ss.drop (z.1 + 1).toNat) m else m) m)
end Lib
end G7

namespace G7
namespace Lib
open PySem
theorem renP_pr (os : List Int) (t : Int × Int) : renP os t = pr (gI os t.1) (gI os t.2) := by
  unfold renP pr gI
  simp [List.getD_eq_getElem?_getD]
def renW (os : List Int) (w : Web) : Web := ⟨w.n, psort (w.ts.map (renP os))⟩
def imgt (os : List Int) (t : Int × Int) : Int × Int := (gI os t.1, gI os t.2)
def tau (os : List Int) (y : Int) : Int := (os.idxOf y : Int)
def spF (os : List Int) (w : Web) : List Int := w.ts.map fun t => ((renW os w).ts.idxOf (renP os t) : Int)
section
variable {os : List Int} {w : Web} {p q m mq : List Int}
theorem ts_nd (o : w.ok) : w.ts.Nodup := o.srt.imp fun h e => by
  subst e
  unfold lexP at h
  omega
theorem ok_good (o : w.ok) : good w.n w.ts := ⟨ts_nd o, o.rg⟩
theorem ren_okW (o : w.ok) (hos : os.Perm (irng 0 w.n)) : (renW os w).ok := ((ok_good o).map hos).web o.n1 o.n9 (by rw [List.length_map]; exact o.len)
theorem ren_len : (renW os w).ts.length = w.ts.length := by
  show (psort _).length = _
  rw [(psort_perm _).length_eq, List.length_map]
theorem ren_mem {t : Int × Int} : t ∈ (renW os w).ts ↔ ∃ u ∈ w.ts, t = renP os u := by
  show t ∈ psort _ ↔ _
  rw [(psort_perm _).mem_iff, List.mem_map]
  exact ⟨fun ⟨u, h, e⟩ => ⟨u, h, e.symm⟩, fun ⟨u, h, e⟩ => ⟨u, h, e.symm⟩⟩
theorem sp_len : (spF os w).length = w.ts.length := by unfold spF; rw [List.length_map]
theorem sp_get {k : Nat} (hk : k < w.ts.length) : gI (spF os w) k = ((renW os w).ts.idxOf (renP os w.ts[k]!) : Int) := by
  unfold gI
  rw [Int.toNat_natCast, getElem!_pos (spF os w) k (by rw [sp_len]; exact hk), getElem!_pos w.ts k hk]
  simp [spF]
theorem sp_rg {k : Nat} (hk : k < w.ts.length) : 0 ≤ gI (spF os w) k ∧ gI (spF os w) k < w.ts.length := by
  rw [sp_get hk]
  have : renP os w.ts[k]! ∈ (renW os w).ts := ren_mem.mpr ⟨_, by rw [getElem!_pos w.ts k hk]; exact List.getElem_mem hk, rfl⟩
  have := List.idxOf_lt_length_of_mem this
  rw [ren_len] at this
  omega
theorem sp_at {k : Nat} (hk : k < w.ts.length) : (renW os w).ts[(gI (spF os w) k).toNat]! = renP os w.ts[k]! := by
  have hr := sp_rg (os := os) hk
  have hm : renP os w.ts[k]! ∈ (renW os w).ts := ren_mem.mpr ⟨_, by rw [getElem!_pos w.ts k hk]; exact List.getElem_mem hk, rfl⟩
  rw [getElem!_pos (renW os w).ts _ (by rw [ren_len]; omega)]
  have e : (gI (spF os w) k).toNat = (renW os w).ts.idxOf (renP os w.ts[k]!) := by rw [sp_get hk]; rfl
  simp only [e]
  exact List.getElem_idxOf (List.idxOf_lt_length_of_mem hm)
theorem sp_sur (o : w.ok) (hos : os.Perm (irng 0 w.n)) {j : Nat} (hj : j < w.ts.length) : ∃ k, k < w.ts.length ∧ gI (spF os w) k = j := by
  have hj2 : j < (renW os w).ts.length := by rw [ren_len]; exact hj
  obtain ⟨u, hu, e⟩ := ren_mem.mp (List.getElem_mem hj2)
  obtain ⟨k, hk, ek⟩ := List.mem_iff_getElem.mp hu
  refine ⟨k, hk, ?_⟩
  rw [sp_get hk, getElem!_pos w.ts k hk, ek, ← e]
  have := (ts_nd (ren_okW o hos)).idxOf_getElem j hj2
  omega
/-- the fall told anew -/
structure Mv (os : List Int) (w : Web) (p m : List Int) : Prop where
  isP : isP (renW os w) m
  at' : ∀ k, k < w.ts.length → gI m (gI (spF os w) k) = if gI os w.ts[k]!.1 < gI os w.ts[k]!.2 then gI p k else 1 - gI p k
theorem arr_alg {a b x : Int} (ne : a ≠ b) (hb : x = 0 ∨ x = 1) : (if (if a < b then x else 1 - x) = 1 then pr a b else ((pr a b).2, (pr a b).1)) = if x = 1 then (a, b) else (b, a) := by
  unfold pr
  rcases hb with rfl | rfl <;> rcases Int.lt_or_gt_of_ne ne with c | c
  · simp [c, show ¬ b < a by omega]
  · simp [c, show ¬ a < b by omega]
  · simp [c, show ¬ b < a by omega]
  · simp [c, show ¬ a < b by omega]
theorem Mv.arr (i : Mv os w p m) (o : w.ok) (hos : os.Perm (irng 0 w.n)) (hp : Lib.isP w p) {k : Nat} (hk : k < w.ts.length) : Lib.arr (renW os w) m (gI (spF os w) k).toNat = imgt os (Lib.arr w p k) := by
  have hr := sp_rg (os := os) hk
  have hpl := hp.1
  have ht : w.ts[k]! ∈ w.ts := by rw [getElem!_pos w.ts k hk]; exact List.getElem_mem hk
  have hg := o.rg _ ht
  have ne := perm_ne hos (i := w.ts[k]!.1) (j := w.ts[k]!.2) hg.1 (by omega) (by omega) hg.2.2 (by omega)
  have hb : p[k]! = 0 ∨ p[k]! = 1 := by rw [getElem!_pos p k (by omega)]; exact hp.2 _ (List.getElem_mem (by omega))
  have hm := i.at' k hk
  have e1 : gI p (k : Nat) = p[k]! := rfl
  have e2 : gI m (gI (spF os w) k) = m[(gI (spF os w) k).toNat]! := rfl
  rw [e1, e2] at hm
  unfold Lib.arr imgt
  rw [sp_at hk, renP_pr, hm, arr_alg ne hb]
  split <;> rfl
theorem Mv.mem (i : Mv os w p m) (o : w.ok) (hos : os.Perm (irng 0 w.n)) (hp : Lib.isP w p) {t : Int × Int} : t ∈ arw (renW os w) m ↔ ∃ u ∈ arw w p, t = imgt os u := by
  have hpl := hp.1
  have hml := i.isP.1
  rw [ren_len] at hml
  rw [mem_arw i.isP]
  constructor
  · rintro ⟨j, hj, rfl⟩
    obtain ⟨k, hk, e⟩ := sp_sur (os := os) o hos (j := j) (by omega)
    refine ⟨Lib.arr w p k, (mem_arw hp).mpr ⟨k, by omega, rfl⟩, ?_⟩
    rw [← i.arr o hos hp hk, e, Int.toNat_natCast]
  · rintro ⟨u, hu, rfl⟩
    obtain ⟨k, hk, rfl⟩ := (mem_arw hp).mp hu
    have hr := sp_rg (os := os) (w := w) (k := k) (by omega)
    exact ⟨(gI (spF os w) k).toNat, by omega, (i.arr o hos hp (by omega)).symm⟩
theorem tau_gI (hos : os.Perm (irng 0 w.n)) {x : Int} (h0 : 0 ≤ x) (h1 : x < w.n) : tau os (gI os x) = x := by
  have hl := hos.length_eq
  rw [ints_len] at hl
  have nd : os.Nodup := hos.nodup_iff.mpr ((ints_sorted _ _).imp fun h => by omega)
  unfold tau gI
  rw [getElem!_pos os x.toNat (by omega), nd.idxOf_getElem x.toNat (by omega)]
  omega
theorem Mv.mem' (i : Mv os w p m) (o : w.ok) (hos : os.Perm (irng 0 w.n)) (hp : Lib.isP w p) {u : Int × Int} (h1 : 0 ≤ u.1 ∧ u.1 < w.n) (h2 : 0 ≤ u.2 ∧ u.2 < w.n) : imgt os u ∈ arw (renW os w) m ↔ u ∈ arw w p := by
  rw [i.mem o hos hp]
  constructor
  · rintro ⟨v, hv, e⟩
    have hr := arw_rg o v hv
    have e1 := congrArg (fun z => tau os z.1) e
    have e2 := congrArg (fun z => tau os z.2) e
    simp only [imgt] at e1 e2
    rw [tau_gI hos h1.1 h1.2, tau_gI hos hr.1.1 hr.1.2] at e1
    rw [tau_gI hos h2.1 h2.2, tau_gI hos hr.2.1 hr.2.2] at e2
    rw [show u = v from Prod.ext e1 e2]; exact hv
  · exact fun hu => ⟨u, hu, rfl⟩
theorem Mv.acyc (i : Mv os w p m) (o : w.ok) (hos : os.Perm (irng 0 w.n)) (hp : Lib.isP w p) : Acyc (arw (renW os w) m) ↔ Acyc (arw w p) := by
  constructor
  · rintro ⟨h, hh⟩
    exact ⟨fun x => h (gI os x), fun t ht => hh _ ((i.mem o hos hp).mpr ⟨t, ht, rfl⟩)⟩
  · rintro ⟨h, hh⟩
    refine ⟨fun y => h (tau os y), fun t ht => ?_⟩
    obtain ⟨u, hu, rfl⟩ := (i.mem o hos hp).mp ht
    have hr := arw_rg o u hu
    simp only [imgt]
    rw [tau_gI hos hr.1.1 hr.1.2, tau_gI hos hr.2.1 hr.2.2]
    exact hh u hu
theorem Mv.fit (i : Mv os w p m) (j : Mv os w q mq) (o : w.ok) (hos : os.Perm (irng 0 w.n)) (hp : Lib.isP w p) (hq : Lib.isP w q) {c : Int → Int} (f : Fit w p q c) : Fit (renW os w) m mq fun y => c (tau os y) := fun t ht => by
  obtain ⟨u, hu, rfl⟩ := (i.mem o hos hp).mp ht
  have hr := arw_rg o u hu
  have h1 := f u hu
  have h2 := j.mem' o hos hq (u := u) hr.1 hr.2
  simp only [imgt] at h2 ⊢
  rw [tau_gI hos hr.1.1 hr.1.2, tau_gI hos hr.2.1 hr.2.2, h1]
  unfold ind
  by_cases c : u ∈ arw w q
  · rw [if_pos c, if_pos (h2.mpr c)]
  · rw [if_neg c, if_neg (fun z => c (h2.mp z))]
theorem Mv.fit_back (i : Mv os w p m) (j : Mv os w q mq) (o : w.ok) (hos : os.Perm (irng 0 w.n)) (hp : Lib.isP w p) (hq : Lib.isP w q) {c : Int → Int} (f : Fit (renW os w) m mq c) : Fit w p q fun x => c (gI os x) := fun u hu => by
  have hr := arw_rg o u hu
  have h1 := f _ ((i.mem o hos hp).mpr ⟨u, hu, rfl⟩)
  have h2 := j.mem' o hos hq (u := u) hr.1 hr.2
  simp only [imgt] at h1 h2 ⊢
  rw [h1]
  unfold ind
  by_cases c : u ∈ arw w q
  · rw [if_pos c, if_pos (h2.mpr c)]
  · rw [if_neg c, if_neg (fun z => c (h2.mp z))]
theorem Mv.kin (i : Mv os w p m) (j : Mv os w q mq) (o : w.ok) (hos : os.Perm (irng 0 w.n)) (hp : Lib.isP w p) (hq : Lib.isP w q) : Kin (renW os w) m mq ↔ Kin w p q :=
  ⟨fun ⟨_, f⟩ => ⟨_, i.fit_back j o hos hp hq f⟩, fun ⟨_, f⟩ => ⟨_, i.fit j o hos hp hq f⟩⟩
theorem Mv.one (i : Mv os w p m) (j : Mv os w p mq) (o : w.ok) (hos : os.Perm (irng 0 w.n)) (hp : Lib.isP w p) (ap : Acyc (arw w p)) : m = mq :=
  same_arw i.isP j.isP ((j.acyc o hos hp).mpr ap) fun t ht => (j.mem o hos hp).mpr ((i.mem o hos hp).mp ht)
end
end Lib
end G7

namespace G7
namespace Lib
open PySem
section
variable {w : Web} {p q : List Int} {k : Nat}
theorem cut_ok (o : w.ok) (t : Int × Int) : (cutF w t).ok := by
  refine ⟨o.n1, o.n9, Nat.le_trans (List.length_filter_le _ _) o.len, fun u hu => o.rg u (List.mem_filter.mp hu).1, o.srt.filter _⟩
end
end Lib
end G7

set_option maxRecDepth 100000
namespace G7
open PySem
namespace Lib
def fallF : Nat → List Int
  | 0 => [1]
  | k + 1 => mulF (fallF k) [1 - ((k : Int) + 1), 1]
def addSt (g : Int) (c : List Int) (z : Int × Int) : List Int := c.set z.1.toNat (gI c z.1 + g * z.2)
def addRow (g : Int) (fa c : List Int) : List Int := (enumL fa).foldl (addSt g) c
def rwF (w : Web) (ps : List Int) : List Int := (irng 1 ((ps.length : Int) + 1)).foldl (fun c many => addRow (gM (ptF 10 w ps [] []) many) (fallF many.toNat) c) (List.replicate (ps.length + 1) 0)
noncomputable def hueRow (w : Web) : List Int := (piecesF w).foldl (fun c p => mulF c (rwF w p)) [1]
end Lib
end G7

set_option maxRecDepth 100000
namespace G7
open PySem
namespace Lib
end Lib
end G7

set_option maxRecDepth 100000
namespace G7
open PySem
namespace Lib
/-- hues of the further places, some places having theirs -/
def okC (w : Web) (done : List (Int × Int)) (p c : Int) : Bool := done.all fun z => !(decide (z.2 = c) && decide (z.1 ∈ nearF w p))
structure Blk (k : Nat) (ss : List (List Int)) (done : List (Int × Int)) (g : List Int) : Prop where
  len : g.length = ss.length
  nd : g.Nodup
  rg : ∀ c ∈ g, 0 ≤ c ∧ c < (k : Int)
  mem : ∀ z, z ∈ done ↔ ∃ i : Nat, ∃ (hi : i < ss.length) (hg : i < g.length), z.1 ∈ ss[i] ∧ z.2 = g[i]
theorem Blk.old {k : Nat} {ss : List (List Int)} {done : List (Int × Int)} {g : List Int} (b : Blk k ss done g) {i : Nat} (hi : i < ss.length) (p : Int) : Blk k (ss.set i (ss[i] ++ [p])) ((p, g[i]'(by rw [b.len]; exact hi)) :: done) g := by
  have hg : i < g.length := by rw [b.len]; exact hi
  refine ⟨by rw [List.length_set]; exact b.len, b.nd, b.rg, fun z => ?_⟩
  rw [List.mem_cons, b.mem]
  constructor
  · rintro (rfl | ⟨j, hj, hgj, h1, h2⟩)
    · exact ⟨i, by rw [List.length_set]; exact hi, hg, by rw [List.getElem_set_self]; simp, rfl⟩
    · refine ⟨j, by rw [List.length_set]; exact hj, hgj, ?_, h2⟩
      by_cases e : i = j
      · subst e; rw [List.getElem_set_self]; simp [h1]
      · rw [List.getElem_set_ne e]; exact h1
  · rintro ⟨j, hj, hgj, h1, h2⟩
    rw [List.length_set] at hj
    by_cases e : i = j
    · subst e
      rw [List.getElem_set_self] at h1
      rcases List.mem_append.mp h1 with h1 | h1
      · exact .inr ⟨i, hj, hgj, h1, h2⟩
      · exact .inl (Prod.ext (List.mem_singleton.mp h1) h2)
    · rw [List.getElem_set_ne e] at h1
      exact .inr ⟨j, hj, hgj, h1, h2⟩
theorem Blk.new {k : Nat} {ss : List (List Int)} {done : List (Int × Int)} {g : List Int} (b : Blk k ss done g) {c : Int} (h0 : 0 ≤ c) (h1 : c < (k : Int)) (hn : c ∉ g) (p : Int) : Blk k (ss ++ [[p]]) ((p, c) :: done) (g ++ [c]) := by
  refine ⟨by rw [List.length_append, List.length_append, b.len]; rfl, List.nodup_append.mpr ⟨b.nd, by simp, fun x hx y hy e => hn ?_⟩, fun x hx => ?_, fun z => ?_⟩
  · rw [List.mem_singleton.mp hy] at e; rw [← e]; exact hx
  · rcases List.mem_append.mp hx with hx | hx
    · exact b.rg x hx
    · rw [List.mem_singleton.mp hx]; exact ⟨h0, h1⟩
  · rw [List.mem_cons, b.mem]
    constructor
    · rintro (rfl | ⟨j, hj, hgj, h1, h2⟩)
      · refine ⟨ss.length, by simp, by rw [List.length_append, b.len]; simp, by simp, ?_⟩
        have : ss.length = g.length := b.len.symm
        simp [this]
      · exact ⟨j, by rw [List.length_append]; omega, by rw [List.length_append]; omega, by rw [List.getElem_append_left hj]; exact h1, by rw [List.getElem_append_left hgj]; exact h2⟩
    · rintro ⟨j, hj, hgj, h1, h2⟩
      rw [List.length_append, List.length_singleton] at hj
      have hl := b.len
      by_cases e : j < ss.length
      · rw [List.getElem_append_left e] at h1
        rw [List.getElem_append_left (by omega)] at h2
        exact .inr ⟨j, e, by omega, h1, h2⟩
      · have ej : j = ss.length := by omega
        subst ej
        left
        refine Prod.ext ?_ ?_
        · simpa using h1
        · simp only [← hl] at h2
          simpa using h2
end Lib
end G7

set_option maxRecDepth 100000
namespace G7
open PySem
namespace Lib
end Lib
end G7

set_option maxRecDepth 100000
namespace G7
open PySem
namespace Lib
end Lib
end G7

set_option maxRecDepth 100000
namespace G7
open PySem
namespace Lib
theorem T_drawn {w : Web} {a b x y : Int} : T (drawnW w a b) x y ↔ ∃ u v, T w u v ∧ dpl u a b = x ∧ dpl v a b = y ∧ x ≠ y := by
  constructor
  · rintro (h | h)
    · obtain ⟨t, ht, h1, h2⟩ := drawn_mem.mp h
      rcases pr_two (dpl t.1 a b) (dpl t.2 a b) with ⟨e, c⟩ | ⟨e, c⟩ <;> rw [e] at h1 <;> cases h1
      · exact ⟨t.1, t.2, .inl ht, rfl, rfl, h2⟩
      · exact ⟨t.2, t.1, .inr ht, rfl, rfl, h2⟩
    · obtain ⟨t, ht, h1, h2⟩ := drawn_mem.mp h
      rcases pr_two (dpl t.1 a b) (dpl t.2 a b) with ⟨e, c⟩ | ⟨e, c⟩ <;> rw [e] at h1 <;> cases h1
      · exact ⟨t.2, t.1, .inr ht, rfl, rfl, Ne.symm h2⟩
      · exact ⟨t.1, t.2, .inl ht, rfl, rfl, Ne.symm h2⟩
  · rintro ⟨u, v, h, rfl, rfl, hne⟩
    rcases h with h | h
    · rcases pr_two (dpl u a b) (dpl v a b) with ⟨e, c⟩ | ⟨e, c⟩
      · exact .inl (drawn_mem.mpr ⟨_, h, e, hne⟩)
      · exact .inr (drawn_mem.mpr ⟨_, h, e, Ne.symm hne⟩)
    · rcases pr_two (dpl v a b) (dpl u a b) with ⟨e, c⟩ | ⟨e, c⟩
      · exact .inr (drawn_mem.mpr ⟨_, h, e, Ne.symm hne⟩)
      · exact .inl (drawn_mem.mpr ⟨_, h, e, hne⟩)
end Lib
end G7

set_option maxRecDepth 100000
namespace G7
open PySem
namespace Lib
theorem drawn_okW {w : Web} (o : w.ok) {a b : Int} (a0 : 0 ≤ a) (hab : a < b) (hb : b < w.n) : (drawnW w a b).ok := by
  have od := drawn_wf (wf_of o) a0 hab hb
  refine ⟨od.n1, od.n9, ?_, od.rg, od.srt⟩
  have h1 := drK_len a b w.ts []
  have h2 := o.len
  have : (drawnW w a b).ts.length = (w.ts.foldl (drK a b) []).length := (psort_perm _).length_eq
  rw [List.length_nil] at h1
  omega
theorem T_cut {w : Web} (o : Wf w) {a b p q : Int} (hab : a < b) : T (cutF w (a, b)) p q ↔ T w p q ∧ ¬ (p = a ∧ q = b) ∧ ¬ (p = b ∧ q = a) := by
  have hm : ∀ u : Int × Int, u ∈ (cutF w (a, b)).ts ↔ u ∈ w.ts ∧ u ≠ (a, b) := fun u => by
    show u ∈ w.ts.filter _ ↔ _
    rw [List.mem_filter]; simp
  unfold T
  constructor
  · rintro (h | h)
    · obtain ⟨h1, h2⟩ := (hm _).mp h
      have := o.rg _ h1
      exact ⟨.inl h1, fun c => h2 (by rw [c.1, c.2]), fun c => by simp only at this; omega⟩
    · obtain ⟨h1, h2⟩ := (hm _).mp h
      have := o.rg _ h1
      exact ⟨.inr h1, fun c => by simp only at this; omega, fun c => h2 (by rw [c.1, c.2])⟩
  · rintro ⟨h | h, h1, h2⟩
    · exact .inl ((hm _).mpr ⟨h, fun c => h1 ⟨(Prod.mk.inj c).1, (Prod.mk.inj c).2⟩⟩)
    · exact .inr ((hm _).mpr ⟨h, fun c => h2 ⟨(Prod.mk.inj c).2, (Prod.mk.inj c).1⟩⟩)
end Lib
end G7

set_option maxRecDepth 100000
namespace G7
open PySem
namespace Lib
def ptg (w : Web) (h : Int → Int) : List Int := w.ts.map fun t => if h t.1 < h t.2 then 1 else 0
def NE (w : Web) (h : Int → Int) : Prop := ∀ t ∈ w.ts, h t.1 ≠ h t.2
theorem ptg_isP (w : Web) (h : Int → Int) : isP w (ptg w h) := by
  refine ⟨by unfold ptg; rw [List.length_map], fun x hx => ?_⟩
  obtain ⟨t, _, rfl⟩ := List.mem_map.mp hx
  split
  · exact .inr rfl
  · exact .inl rfl
theorem ptg_up {w : Web} {h : Int → Int} (n : NE w h) : ∀ t ∈ arw w (ptg w h), h t.1 < h t.2 := by
  intro t ht
  unfold ptg at ht
  rw [arw_map] at ht
  obtain ⟨u, hu, rfl⟩ := List.mem_map.mp ht
  have := n u hu
  by_cases c : h u.1 < h u.2
  · simp only [if_pos c, if_true]; exact c
  · simp only [if_neg c]
    show h _ < h _
    rw [if_neg (by decide)]
    show h u.2 < h u.1
    omega
theorem up_ptg {w : Web} {p : List Int} (hp : isP w p) {h : Int → Int} (hu : ∀ t ∈ arw w p, h t.1 < h t.2) : NE w h ∧ p = ptg w h := by
  have hl := hp.1
  have hat : ∀ i (hi : i < p.length) (ht : i < w.ts.length), if p[i] = 1 then h w.ts[i].1 < h w.ts[i].2 else h w.ts[i].2 < h w.ts[i].1 := fun i hi ht => by
    have := hu _ ((mem_arw hp).mpr ⟨i, hi, rfl⟩)
    unfold arr at this
    rw [getElem!_pos p i hi, getElem!_pos w.ts i ht] at this
    split
    · rename_i c; rw [if_pos c] at this; exact this
    · rename_i c; rw [if_neg c] at this; exact this
  refine ⟨fun t ht => ?_, List.ext_getElem (by unfold ptg; rw [List.length_map, hl]) fun i h1 h2 => ?_⟩
  · obtain ⟨i, hi, rfl⟩ := List.mem_iff_getElem.mp ht
    have := hat i (by omega) hi
    split at this <;> omega
  · have := hat i h1 (by omega)
    have e1 : (ptg w h)[i] = if h w.ts[i].1 < h w.ts[i].2 then 1 else 0 := by simp only [ptg, List.getElem_map]
    rw [e1]
    rcases hp.2 _ (List.getElem_mem h1) with e | e
    · rw [e] at this ⊢
      rw [if_neg (by decide)] at this
      rw [if_neg (by omega)]
    · rw [e] at this ⊢
      rw [if_pos rfl] at this
      rw [if_pos this]
theorem mem_F {w : Web} (o : w.ok) {p : List Int} : p ∈ fallsL w ↔ ∃ h, NE w h ∧ p = ptg w h := by
  rw [fallsL_mem o]
  constructor
  · rintro ⟨hp, h, hu⟩
    obtain ⟨h1, h2⟩ := up_ptg hp hu
    exact ⟨h, h1, h2⟩
  · rintro ⟨h, h1, rfl⟩
    exact ⟨ptg_isP w h, h, ptg_up h1⟩
theorem filt_mem {L : List (List Int)} (P : List Int → Prop) [DecidablePred P] {p : List Int} : p ∈ L.filter (fun p => decide (P p)) ↔ p ∈ L ∧ P p := by
  rw [List.mem_filter]; simp
end Lib
end G7

set_option maxRecDepth 100000
namespace G7
open PySem
namespace Lib
end Lib
end G7

set_option maxRecDepth 100000
namespace G7
open PySem
namespace Lib
end Lib
end G7

set_option maxRecDepth 100000
namespace G7
open PySem
namespace Lib
end Lib
end G7

set_option maxRecDepth 100000
namespace G7
open PySem
namespace Lib
end Lib
end G7

set_option maxRecDepth 100000
namespace G7
open PySem
namespace Lib
end Lib
end G7

set_option maxRecDepth 100000
namespace G7
open PySem
namespace Lib
theorem T_rev {w : Web} {a b : Int} (h : T w a b) : T w b a := h.elim .inr .inl
/-- r alone is a spring -/
def Sr (w : Web) (r : Int) (h : Int → Int) : Prop := (∀ y, T w r y → h r < h y) ∧ ∀ x, 0 ≤ x → x < w.n → x ≠ r → ∃ y, T w x y ∧ h y < h x
open Classical in
noncomputable def fallsS (w : Web) (r : Int) : List (List Int) := (fallsL w).filter fun q => decide (∃ h, (NE w h ∧ Sr w r h) ∧ q = ptg w h)
theorem mem_FS {w : Web} (o : w.ok) {r : Int} {p : List Int} : p ∈ fallsS w r ↔ ∃ h, (NE w h ∧ Sr w r h) ∧ p = ptg w h := by
  classical
  unfold fallsS
  rw [filt_mem, mem_F o]
  exact ⟨fun h => h.2, fun ⟨h, h1, h2⟩ => ⟨⟨h, h1.1, h2⟩, h, h1, h2⟩⟩
theorem fallsS_nd {w : Web} (o : w.ok) (r : Int) : (fallsS w r).Nodup := by
  classical
  exact (fallsL_nd o).filter _
theorem T_rg {w : Web} (o : w.ok) {x y : Int} (t : T w x y) : (0 ≤ x ∧ x < w.n) ∧ 0 ≤ y ∧ y < w.n := by
  rcases t with t | t
  · have := o.rg _ t; simp only at this; omega
  · have := o.rg _ t; simp only at this; omega
end Lib
end G7

set_option maxRecDepth 100000
namespace G7
open PySem
namespace Lib
def cf (r : List Int) (j : Nat) : Int := (r[j]?).getD 0
end Lib
end G7

set_option maxRecDepth 100000
namespace G7
open PySem
namespace Lib
end Lib
end G7

set_option maxRecDepth 100000
namespace G7
open PySem
namespace Lib
end Lib
end G7

namespace G7
namespace Lib
open PySem
theorem exD_inj {a b : Str} (h : exD a = exD b) : a = b := by
  unfold exD at h
  injection h with h
  injection h with h _
  injection h with _ h
  injection h
theorem not_ex_tup {xs : List D} : ∀ cn, (PyData.tuple xs : D) ≠ exD cn := fun cn h => by unfold exD at h; cases h
theorem i_tryX {i : Nat} {cs : List (Str × WS)} {wb : WS} {W : WD} {e : En} (k : wb { W with rt := fun d e1 => (∀ cn, d = exD cn → tryCase cs cn { nx := fun e2 => W.nx (e2.set i none), rt := fun d e2 => W.rt d (e2.set i none), bk := fun e2 => W.bk (e2.set i none), ct := fun e2 => W.ct (e2.set i none) } (e1.set i (some (exD cn)))) ∧ ((∀ cn, d ≠ exD cn) → W.rt d e1) } e) : wTryX i cs wb W e := k
/-- told: not raised -/
theorem told {d : D} {P : Str → Prop} {Q : Prop} (h : ∀ cn, d ≠ exD cn) (q : Q) : (∀ cn, d = exD cn → P cn) ∧ ((∀ cn, d ≠ exD cn) → Q) := ⟨fun cn e => absurd e (h cn), fun _ => q⟩
/-- told: raised -/
theorem raised {c : Str} {P : Str → Prop} {Q : Prop} (q : P c) : (∀ cn, exD c = exD cn → P cn) ∧ ((∀ cn, exD c ≠ exD cn) → Q) := ⟨fun cn e => by rw [← exD_inj e]; exact q, fun h => absurd rfl (h c)⟩
theorem cnt_ltb {α : Type} {p q : α → Bool} : ∀ {L : List α}, (∀ x ∈ L, p x = true → q x = true) → ∀ {y}, y ∈ L → p y = false → q y = true → L.countP p < L.countP q
  | x :: L, h, y, hy, py, qy => by
    rw [List.countP_cons, List.countP_cons]
    have hle : L.countP p ≤ L.countP q := List.countP_mono_left fun z hz => h z (by simp [hz])
    rcases List.mem_cons.mp hy with rfl | hy
    · rw [py, qy]; simp; omega
    · have := cnt_ltb (fun z hz => h z (by simp [hz])) hy py qy
      have hx := h x (by simp)
      cases px : p x
      · cases qx : q x <;> simp <;> omega
      · rw [hx px]; simp; omega
theorem reach_rg {w : Web} (o : w.ok) {x y : Int} (x0 : 0 ≤ x) (x1 : x < w.n) (r : Reach w x y) : 0 ≤ y ∧ y < w.n := r.rg o ⟨x0, x1⟩
/-- the least of a piece -/
def LeastP (w : Web) (r : Int) : Prop := 0 ≤ r ∧ r < w.n ∧ ∀ y, Reach w r y → r ≤ y
theorem least_of {w : Web} (o : w.ok) : ∀ (k : Nat) {x : Int}, x ≤ k → 0 ≤ x → x < w.n → ∃ r, LeastP w r ∧ Reach w x r
  | 0, x, h, x0, x1 => ⟨x, ⟨x0, x1, fun y r => by have := reach_rg o x0 x1 r; omega⟩, .refl⟩
  | k + 1, x, h, x0, x1 => by
    by_cases c : ∃ y, Reach w x y ∧ y < x
    · obtain ⟨y, r, hy⟩ := c
      have := reach_rg o x0 x1 r
      obtain ⟨z, hz, r2⟩ := least_of o k (x := y) (by omega) this.1 this.2
      exact ⟨z, hz, r.trans r2⟩
    · exact ⟨x, ⟨x0, x1, fun y r => by
        apply Classical.byContradiction
        intro h2
        exact c ⟨y, r, by omega⟩⟩, .refl⟩
/-- so far with the least places -/
def Spread (w : Web) (t : Nat) (l : List Int) : Prop := ∀ r, LeastP w r → gI l r = r ∧ ((∀ x, Reach w r x → gI l x = r) ∨ t + 1 ≤ (irng 0 w.n).countP fun x => decide (gI l x = r))
theorem Spread.start {w : Web} : Spread w 0 (irng 0 w.n) := fun r hr => by
  have e := gI_irng hr.1 hr.2.1
  refine ⟨e, .inr ?_⟩
  exact List.countP_pos_iff.mpr ⟨r, mem_ints.mpr ⟨hr.1, hr.2.1⟩, by simpa using e⟩
theorem cross {w : Web} {P : Int → Prop} {x y : Int} (r : Reach w x y) (hx : P x) (hy : ¬ P y) : ∃ u v, T w u v ∧ P u ∧ ¬ P v ∧ Reach w x v := by
  induction r with
  | refl => exact absurd hx hy
  | @step u v r t ih =>
    by_cases c : P u
    · exact ⟨u, v, t, c, hy, .step r t⟩
    · obtain ⟨a, b, h1, h2, h3, h4⟩ := ih c
      exact ⟨a, b, h1, h2, h3, h4⟩
/-- a round: l0 before it, l after the ties of pre -/
def RndP (w : Web) (l0 : List Int) (pre : List (Int × Int)) (l : List Int) : Prop := ∀ r, LeastP w r → (∀ x, 0 ≤ x → x < w.n → gI l0 x = r → gI l x = r) ∧ ∀ t ∈ pre, gI l0 t.1 = r ∨ gI l0 t.2 = r → gI l t.1 = r ∧ gI l t.2 = r
theorem RndP.done {w : Web} (o : w.ok) {t : Nat} {l0 l : List Int} (h : Spread w t l0) (hr : RndP w l0 w.ts l) : Spread w (t + 1) l := fun r lr => by
  obtain ⟨e, h⟩ := h r lr
  obtain ⟨k, s⟩ := hr r lr
  refine ⟨k r lr.1 lr.2.1 e, ?_⟩
  rcases h with h | h
  · exact .inl fun x rx => by have := reach_rg o lr.1 lr.2.1 rx; exact k x this.1 this.2 (h x rx)
  by_cases c : ∀ x, Reach w r x → gI l0 x = r
  · exact .inl fun x rx => by have := reach_rg o lr.1 lr.2.1 rx; exact k x this.1 this.2 (c x rx)
  · obtain ⟨x, hx⟩ := Classical.not_forall.mp c
    obtain ⟨rx, nx⟩ := Classical.not_imp.mp hx
    obtain ⟨u, v, tt, hu, hv, rv⟩ := cross (P := fun z => gI l0 z = r) rx e nx
    have hvr := reach_rg o lr.1 lr.2.1 rv
    have hv2 : gI l v = r := by
      rcases tt with m | m
      · exact (s (u, v) m (.inl hu)).2
      · exact (s (v, u) m (.inr hu)).1
    have := cnt_ltb (p := fun x => decide (gI l0 x = r)) (q := fun x => decide (gI l x = r)) (L := irng 0 w.n) (fun z hz h => decide_eq_true (k z (mem_ints.mp hz).1 (mem_ints.mp hz).2 (of_decide_eq_true h))) (mem_ints.mpr hvr) (decide_eq_false hv) (decide_eq_true hv2)
    exact .inr (by omega)
theorem Spread.all {w : Web} (o : w.ok) {t : Nat} {l : List Int} (h : Spread w t l) (ht : w.n ≤ t) {x y : Int} (x0 : 0 ≤ x) (x1 : x < w.n) (r : Reach w x y) : gI l x = gI l y := by
  obtain ⟨z, lz, rz⟩ := least_of o x.toNat (x := x) (by omega) x0 x1
  have a : ∀ u, Reach w z u → gI l u = z := by
    rcases (h z lz).2 with h | h
    · exact h
    · have := List.countP_le_length (p := fun x => decide (gI l x = z)) (l := irng 0 w.n)
      rw [ints_len] at this
      omega
  rw [a x rz.symm, a y (rz.symm.trans r)]
end Lib
end G7

set_option maxRecDepth 100000
namespace G7
open PySem PySem.Spec PyProof.Rows L2
def okT : RK → Bool
  | .fz => true
  | .ow _ => true
  | _ => false
section
variable {K : PySem.W.Frag} {κ : List SK} {g : Rg} {env : En} {σ : St} {H H0 H' : Hp} {S S' : Addr → Prop}
theorem RepAll.ints : ∀ {ns : List Int} {vs : List V}, RepAll K H S vs (ns.map .int) → RepAll K H' S' vs (ns.map .int)
  | [], _, .nil => .nil
  | n :: ns, _, .cons r t => by
    rw [List.map_cons]
    have := r.toInt
    subst this
    exact .cons (.int _) t.ints
theorem Res.loose {k : RK} {v : V} {d : D} (f : Frm K κ g env σ H) (hk : okT k = true) (r : Res K g k H0 H v d) : Rep K H g.O v d := by
  cases k with
  | fz => exact Rep.keep (fun _ _ _ q => q) (fun a q => .inl (.inl q)) r
  | ow i =>
    obtain ⟨a, rfl, ea, ob⟩ := r
    exact (ob.keep (fun _ q => q) (fun _ _ _ q => q) fun a q => .inl (.inl q)).rep (f.alo i a ea).1
  | rd => simp [okT] at hk
  | nw => simp [okT] at hk
  | pl => simp [okT] at hk
  | np => simp [okT] at hk
theorem ResA.loose (f : Frm K κ g env σ H) : ∀ {ks : List RK} {vs : List V} {ds : List D}, ks.all okT = true → ResA K g H0 H ks vs ds → RepAll K H g.O vs ds
  | [], [], [], _, _ => .nil
  | k :: _, _ :: _, _ :: _, hk, h => by
    simp only [List.all_cons, Bool.and_eq_true] at hk
    exact .cons (h.1.loose f hk.1) (ResA.loose f hk.2 h.2)
  | [], [], _ :: _, _, h => h.elim
  | [], _ :: _, _, _, h => h.elim
  | _ :: _, [], _, _, h => h.elim
  | _ :: _, _ :: _, [], _, h => h.elim
end
end G7

set_option maxRecDepth 100000
namespace G7
open PySem
namespace Lib
end Lib
end G7

set_option maxRecDepth 100000
namespace G7
open PySem
namespace Lib
theorem or_lt {a b : Int} (ha : 0 ≤ a) (hb : 0 ≤ b) {n : Nat} (h1 : a < 2 ^ n) (h2 : b < 2 ^ n) : Builtin.bitOr a b < 2 ^ n := by
  have e2 : ((2 ^ n : Nat) : Int) = 2 ^ n := by simp
  rw [or_nn ha hb]
  have := Nat.or_lt_two_pow (x := a.toNat) (y := b.toNat) (n := n) (by omega) (by omega)
  omega
theorem pow_lt {i : Int} (i0 : 0 ≤ i) {n : Nat} (h : i < n) : (2 : Int) ^ i.toNat < 2 ^ n := by
  have e1 : ((2 ^ i.toNat : Nat) : Int) = 2 ^ i.toNat := by simp
  have e2 : ((2 ^ n : Nat) : Int) = 2 ^ n := by simp
  have := Nat.pow_lt_pow_right (a := 2) (by omega) (show i.toNat < n by omega)
  omega
/-- an order that grows from s: each other place has a near one ahead, and all that lead to it -/
def GrowO (ks is : List Int) (s : Int) (os : List Int) : Prop := ∀ pre x post, os = pre ++ x :: post → x ≠ s → (∃ y ∈ pre, tb (gI ks x) y = true) ∧ ∀ y, 0 ≤ y → tb (gI is x) y = true → y ∈ pre
structure PlI (ks is : List Int) (n : Nat) (s : Int) (os : List Int) (m : Int) : Prop where
  nd : os.Nodup
  rg : ∀ x ∈ os, 0 ≤ x ∧ x < (n : Int)
  hd : ∃ r, os = s :: r
  gr : GrowO ks is s os
  m0 : 0 ≤ m
  m1 : m < 2 ^ n
  bt : ∀ i : Int, 0 ≤ i → (tb m i = true ↔ i ∈ os)
/-- what may be put next -/
def AddO (ks is : List Int) (os : List Int) (x : Int) : Prop := x ∉ os ∧ (∃ y ∈ os, tb (gI ks x) y = true) ∧ ∀ y, 0 ≤ y → tb (gI is x) y = true → y ∈ os
theorem PlI.put {ks is : List Int} {n : Nat} {s : Int} {os : List Int} {m x : Int} (h : PlI ks is n s os m) (x0 : 0 ≤ x) (x1 : x < n) (a : AddO ks is os x) : PlI ks is n s (os ++ [x]) (Builtin.bitOr m (2 ^ x.toNat)) := by
  have hp := pow_nn x.toNat
  refine ⟨List.nodup_append.mpr ⟨h.nd, by simp, fun y hy z hz e => a.1 (by rw [← List.mem_singleton.mp hz, ← e]; exact hy)⟩, fun y hy => ?_, ?_, ?_, or_pos h.m0 hp, or_lt h.m0 hp h.m1 (pow_lt x0 x1), fun i i0 => ?_⟩
  · rcases List.mem_append.mp hy with hy | hy
    · exact h.rg y hy
    · rw [List.mem_singleton.mp hy]; exact ⟨x0, x1⟩
  · obtain ⟨r, e⟩ := h.hd
    exact ⟨r ++ [x], by rw [e]; rfl⟩
  · intro pre y post e ne
    rcases List.append_eq_append_iff.mp e with ⟨as, e1, e2⟩ | ⟨bs, e1, e2⟩
    · cases as with
      | nil =>
        rw [List.append_nil] at e1
        have e3 := (List.cons.inj (e2.trans rfl)).1
        subst e3
        subst e1
        exact a.2
      | cons z as =>
        rw [List.cons_append] at e2
        have e4 := (List.cons.inj e2).2
        cases as <;> simp at e4
    · cases bs with
      | nil =>
        rw [List.append_nil] at e1
        have e3 := (List.cons.inj e2).1
        subst e3
        subst e1
        exact a.2
      | cons z bs =>
        rw [List.cons_append] at e2
        obtain ⟨e3, e4⟩ := List.cons.inj e2
        subst e3
        exact h.gr pre y bs e1 ne
  · rw [tb_or h.m0 hp, tb_pow x0 i0, List.mem_append, List.mem_singleton, Bool.or_eq_true, h.bt i i0, decide_eq_true_eq]
theorem PlI.start {ks is : List Int} {n : Nat} {s : Int} (s0 : 0 ≤ s) (s1 : s < n) : PlI ks is n s [s] (2 ^ s.toNat) := by
  refine ⟨by simp, fun x hx => by rw [List.mem_singleton.mp hx]; exact ⟨s0, s1⟩, ⟨[], rfl⟩, fun pre x post e ne => ?_, pow_nn _, pow_lt s0 s1, fun i i0 => by rw [tb_pow s0 i0, decide_eq_true_eq, List.mem_singleton]⟩
  cases pre with
  | nil => exact absurd (List.cons.inj e).1.symm ne
  | cons z pre => rw [List.cons_append] at e; have := (List.cons.inj e).2; cases pre <;> simp at this
theorem PlI.len {ks is : List Int} {n : Nat} {s : Int} {os : List Int} {m : Int} (h : PlI ks is n s os m) : os.length ≤ n := by
  have := nodup_le (l := os) (m := irng 0 n) h.nd fun x hx => mem_ints.mpr (h.rg x hx)
  rw [ints_len] at this
  omega
end Lib
end G7

set_option maxRecDepth 100000
namespace G7
open PySem
namespace Lib
def lbF (is : List Int) (b e : Int) : List Int := is.set e.toNat (Builtin.bitOr (gI is e) (2 ^ b.toNat))
theorem lb_len (is : List Int) (b e : Int) : (lbF is b e).length = is.length := by unfold lbF; rw [List.length_set]
theorem lb_gI {is : List Int} {b e x : Int} (e0 : 0 ≤ e) (x0 : 0 ≤ x) (x1 : x < (is.length : Int)) : gI (lbF is b e) x = if x = e then Builtin.bitOr (gI is e) (2 ^ b.toNat) else gI is x := gI_set e0 x0 x1
theorem lb_nn {is : List Int} (h : ∀ x ∈ is, 0 ≤ x) {b e : Int} (e0 : 0 ≤ e) (e1 : e < (is.length : Int)) : ∀ x ∈ lbF is b e, 0 ≤ x := fun x hx => by
  rcases List.mem_or_eq_of_mem_set hx with h1 | h1
  · exact h x h1
  · rw [h1]; exact or_pos (gI_nn h e0 e1) (pow_nn _)
/-- the beginning p, of the first ties, goes on to a rank by which s alone is a spring -/
def Goes (w : Web) (s : Int) (ts : List (Int × Int)) (p : List Int) : Prop := ∃ h, (NE w h ∧ Sr w s h) ∧ ∀ t ∈ arw ⟨w.n, ts⟩ p, h t.1 < h t.2
/-- is tells the sets that lead to each place -/
def IntoOk (n : Int) (ts : List (Int × Int)) (p is : List Int) : Prop := (is.length : Int) = n ∧ (∀ x ∈ is, 0 ≤ x) ∧ ∀ x, 0 ≤ x → x < n → ∀ y, 0 ≤ y → (tb (gI is x) y = true ↔ (y, x) ∈ arw ⟨n, ts⟩ p)
end Lib
end G7

set_option maxRecDepth 100000
namespace G7
open PySem
namespace Lib
structure SF (w : Web) (s : Int) (ts : List (Int × Int)) (L : List PR) : Prop where
  mem : ∀ p, p ∈ L.map Prod.fst ↔ isP ⟨w.n, ts⟩ p ∧ Goes w s ts p
  nd : (L.map Prod.fst).Nodup
  ok : ∀ z ∈ L, IntoOk w.n ts z.1 z.2
def growS (L : List PR) (a b : Int) : List PR := L.flatMap fun z => [(z.1 ++ [0], lbF z.2 b a), (z.1 ++ [1], lbF z.2 a b)]
theorem growS_mem {L : List PR} {a b : Int} {y : PR} : y ∈ growS L a b ↔ ∃ z ∈ L, y = (z.1 ++ [0], lbF z.2 b a) ∨ y = (z.1 ++ [1], lbF z.2 a b) := by
  unfold growS
  rw [List.mem_flatMap]
  simp
theorem into_step {n : Int} {ts : List (Int × Int)} {p is : List Int} (h : IntoOk n ts p is) (hl : p.length = ts.length) {a b : Int} (ha : 0 ≤ a ∧ a < n) (hb : 0 ≤ b ∧ b < n) : IntoOk n (ts ++ [(a, b)]) (p ++ [0]) (lbF is b a) ∧ IntoOk n (ts ++ [(a, b)]) (p ++ [1]) (lbF is a b) := by
  have key : ∀ c e v : Int, (0 ≤ c ∧ c < n) → (0 ≤ e ∧ e < n) → arw ⟨n, ts ++ [(a, b)]⟩ (p ++ [v]) = arw ⟨n, ts⟩ p ++ [(c, e)] → IntoOk n (ts ++ [(a, b)]) (p ++ [v]) (lbF is c e) := fun c e v hc he ea => by
    have hg := gI_nn h.2.1 he.1 (by rw [h.1]; exact he.2)
    refine ⟨by rw [lb_len]; exact h.1, lb_nn h.2.1 he.1 (by rw [h.1]; exact he.2), fun x x0 x1 y y0 => ?_⟩
    rw [ea, List.mem_append, List.mem_singleton, ← h.2.2 x x0 x1 y y0, lb_gI he.1 x0 (by rw [h.1]; exact x1)]
    by_cases q : x = e
    · subst q
      rw [if_pos rfl, tb_or hg (pow_nn _), tb_pow hc.1 y0, Bool.or_eq_true, decide_eq_true_eq]
      constructor
      · rintro (q | q)
        · exact .inl q
        · exact .inr (by rw [q])
      · rintro (q | q)
        · exact .inl q
        · exact .inr (Prod.mk.inj q).1
    · rw [if_neg q]
      constructor
      · intro t; exact .inl t
      · rintro (t | t)
        · exact t
        · exact absurd (Prod.mk.inj t).2 q
  refine ⟨key b a 0 hb ha ?_, key a b 1 ha hb ?_⟩
  · rw [arw_snoc hl, if_neg (by decide)]
  · rw [arw_snoc hl, if_pos rfl]
theorem SF.start {w : Web} (o : w.ok) {s : Int} (hne : fallsS w s ≠ []) : SF w s [] [([], List.replicate w.n.toNat 0)] := by
  have n1 := o.n1
  obtain ⟨q, hq⟩ := List.exists_mem_of_ne_nil _ hne
  obtain ⟨h, h1, _⟩ := (mem_FS o).mp hq
  refine ⟨fun p => ?_, by simp, fun z hz => ?_⟩
  · simp only [List.map_cons, List.map_nil, List.mem_singleton]
    constructor
    · rintro rfl
      exact ⟨⟨rfl, by simp⟩, h, h1, by intro t ht; simp [arw] at ht⟩
    · rintro ⟨⟨h1, _⟩, _⟩
      exact List.length_eq_zero_iff.mp h1
  · simp only [List.mem_singleton] at hz
    subst hz
    refine ⟨by simp; omega, fun x hx => by rw [List.eq_of_mem_replicate hx]; exact Int.le_refl _, fun x x0 x1 y y0 => ?_⟩
    have e : gI (List.replicate w.n.toNat 0) x = 0 := by
      unfold gI
      rw [getElem!_pos _ _ (by rw [List.length_replicate]; omega), List.getElem_replicate]
    rw [e, tb_zero]
    simp [arw]
theorem SF.len {w : Web} {s : Int} {ts : List (Int × Int)} {L : List PR} (h : SF w s ts L) : ∀ z ∈ L, isP ⟨w.n, ts⟩ z.1 := fun z hz => ((h.mem z.1).mp (List.mem_map.mpr ⟨z, hz, rfl⟩)).1
open Classical in
theorem SF.step {w : Web} {s : Int} {ts : List (Int × Int)} {L : List PR} (h : SF w s ts L) {a b : Int} (ha : 0 ≤ a ∧ a < w.n) (hb : 0 ≤ b ∧ b < w.n) : SF w s (ts ++ [(a, b)]) ((growS L a b).filter fun z => decide (Goes w s (ts ++ [(a, b)]) z.1)) := by
  have lenp : ∀ z ∈ L, z.1.length = ts.length := fun z hz => (h.len z hz).1
  have hfst : ∀ y ∈ growS L a b, isP ⟨w.n, ts ++ [(a, b)]⟩ y.1 ∧ IntoOk w.n (ts ++ [(a, b)]) y.1 y.2 := fun y hy => by
    obtain ⟨z, hz, q⟩ := growS_mem.mp hy
    have hs := into_step (h.ok z hz) (lenp z hz) ha hb
    rcases q with rfl | rfl
    · exact ⟨isP_snoc.mpr ⟨_, _, rfl, h.len z hz, .inl rfl⟩, hs.1⟩
    · exact ⟨isP_snoc.mpr ⟨_, _, rfl, h.len z hz, .inr rfl⟩, hs.2⟩
  refine ⟨fun q => ?_, ?_, fun z hz => (hfst z (List.mem_filter.mp hz).1).2⟩
  · rw [List.mem_map]
    constructor
    · rintro ⟨y, hy, rfl⟩
      obtain ⟨h1, h2⟩ := List.mem_filter.mp hy
      exact ⟨(hfst y h1).1, of_decide_eq_true h2⟩
    · rintro ⟨hq, hg⟩
      obtain ⟨p, x, rfl, hp, hx⟩ := isP_snoc.mp hq
      have hgp : Goes w s ts p := by
        obtain ⟨f, f1, f2⟩ := hg
        refine ⟨f, f1, fun t ht => f2 t ?_⟩
        rw [arw_snoc hp.1]
        exact List.mem_append_left _ ht
      obtain ⟨z, hz, e⟩ := List.mem_map.mp ((h.mem p).mpr ⟨hp, hgp⟩)
      subst e
      rcases hx with rfl | rfl
      · exact ⟨_, List.mem_filter.mpr ⟨growS_mem.mpr ⟨z, hz, .inl rfl⟩, decide_eq_true hg⟩, rfl⟩
      · exact ⟨_, List.mem_filter.mpr ⟨growS_mem.mpr ⟨z, hz, .inr rfl⟩, decide_eq_true hg⟩, rfl⟩
  · have key : ∀ L : List PR, (L.map Prod.fst).Nodup → ((growS L a b).map Prod.fst).Nodup := by
      intro L
      induction L with
      | nil => intro _; exact List.nodup_nil
      | cons z L ih =>
        intro nd
        rw [List.map_cons] at nd
        obtain ⟨n1, n2⟩ := List.nodup_cons.mp nd
        have e : (growS (z :: L) a b).map Prod.fst = [z.1 ++ [0], z.1 ++ [1]] ++ (growS L a b).map Prod.fst := by unfold growS; rw [List.flatMap_cons]; simp
        rw [e]
        refine List.nodup_append.mpr ⟨?_, ih n2, fun p hp q hq e => ?_⟩
        · simp
        · obtain ⟨y, hy, rfl⟩ := List.mem_map.mp hq
          obtain ⟨z2, hz2, c⟩ := growS_mem.mp hy
          have : p.dropLast = z.1 := by
            simp only [List.mem_cons, List.not_mem_nil, or_false] at hp
            rcases hp with rfl | rfl <;> simp
          have e2 : y.1.dropLast = z2.1 := by rcases c with rfl | rfl <;> simp
          refine n1 (List.mem_map.mpr ⟨z2, hz2, ?_⟩)
          rw [← e2, ← e, this]
    have := key L h.nd
    unfold List.Nodup at this ⊢
    rw [List.pairwise_map] at this ⊢
    exact this.filter _
theorem SF.all {w : Web} (o : w.ok) {s : Int} {L : List PR} (h : SF w s w.ts L) : (L.map Prod.fst).Perm (fallsS w s) := by
  refine (List.perm_ext_iff_of_nodup h.nd (fallsS_nd o s)).mpr fun p => ?_
  rw [h.mem, mem_FS o]
  constructor
  · rintro ⟨h1, f, f1, f2⟩
    exact ⟨f, f1, (up_ptg h1 f2).2⟩
  · rintro ⟨f, f1, rfl⟩
    exact ⟨ptg_isP w f, f, f1, ptg_up f1.1⟩
end Lib
end G7

set_option maxRecDepth 100000
namespace G7
open PySem
namespace Lib
end Lib
end G7

set_option maxRecDepth 100000
namespace G7
open PySem
namespace Lib
/-- a bound, by how many ties and places -/
def kb : Nat → Nat → Nat
  | 0, n => if n = 1 then 1 else 0
  | m + 1, n => if n ≤ 1 then 1 else if n * (n - 1) ≤ 2 * m then kb m n else kb m n + kb m (n - 1)
end Lib
end G7

set_option maxRecDepth 100000
namespace G7
open PySem
namespace Lib
end Lib
end G7

set_option maxRecDepth 100000
namespace G7
open PySem
namespace Lib
/-- led to by places of a kind -/
inductive RP (w : Web) (P : Int → Prop) (x : Int) : Int → Prop
  | refl : RP w P x x
  | step {u v} : RP w P x u → T w u v → P v → RP w P x v
theorem RP.trans {w : Web} {P : Int → Prop} {x y z : Int} (h : RP w P x y) (g : RP w P y z) : RP w P x z := by
  induction g with
  | refl => exact h
  | step _ t p ih => exact .step ih t p
theorem RP.symm {w : Web} {P : Int → Prop} {x y : Int} (h : RP w P x y) (hx : P x) : RP w P y x := by
  have key : RP w P y x ∧ P y := by
    induction h with
    | refl => exact ⟨.refl, hx⟩
    | step _ t p ih => exact ⟨RP.trans (.step .refl (T_rev t) ih.2) ih.1, p⟩
  exact key.1
theorem RP.mono {w : Web} {P Q : Int → Prop} {x y : Int} (h : RP w P x y) (s : ∀ z, RP w P x z → P z → Q z) : RP w Q x y := by
  induction h with
  | refl => exact .refl
  | step r t p ih => exact .step ih t (s _ (.step r t p) p)
theorem RP.rg {w : Web} (o : w.ok) {P : Int → Prop} {x y : Int} (h : RP w P x y) (hx : 0 ≤ x ∧ x < w.n) : 0 ≤ y ∧ y < w.n := by
  cases h with
  | refl => exact hx
  | step _ t _ => exact (T_rg o t).2
end Lib
end G7

set_option maxRecDepth 100000
namespace G7
open PySem
namespace Lib
def mayF (w : Web) (t : Int) (o : List Int) (x : Int) : Bool :=
  if x = t then decide ((o.length : Int) = w.n - 1)
  else !decide ((nearF w x).filter (fun y => !decide (y ∈ o)) = []) && decide ((((nearF w x).filter fun y => !decide (y ∈ o)).length : Int) < ((nearF w x).length : Int))
def goF (w : Web) (t : Int) : Nat → List Int → Option (List Int)
  | 0, o => some o
  | j + 1, o => (irng 0 w.n).findSome? fun x => if (!decide (x ∈ o) && mayF w t o x) = true then goF w t j (o ++ [x]) else none
end Lib
end G7

set_option maxRecDepth 100000
namespace G7
open PySem PySem.Spec PyProof.Rows L2
end G7

set_option maxRecDepth 100000
namespace G7
open PySem PySem.Spec PyProof.Rows L2
end G7

set_option maxRecDepth 100000
namespace G7
open PySem PySem.Spec PyProof.Rows L2
end G7

set_option maxRecDepth 100000
namespace G7
open PySem
namespace Lib
def subsL : List Int → List (List Int)
  | [] => [[]]
  | x :: l => subsL l ++ (subsL l).map (x :: ·)
theorem subsL_len : ∀ l : List Int, (subsL l).length = 2 ^ l.length
  | [] => rfl
  | x :: l => by simp [subsL, subsL_len l, Nat.pow_succ]; omega
def OkB (w : Web) (t : Int) (k : Nat) (m : List (List Int)) : Prop := m.Nodup ∧ (∀ q ∈ m, q ∈ subsL (irng 0 w.n)) ∧ ∀ q ∈ m, k ≤ q.length → ∀ o : List Int, o.Perm q → goF w t (w.n.toNat - q.length) o = none
theorem OkB.len {w : Web} (ok : w.ok) {t : Int} {k : Nat} {m : List (List Int)} (h : OkB w t k m) : m.length ≤ 512 := by
  have n9 := ok.n9
  have h1 := nodup_leG h.1 h.2.1
  rw [subsL_len, ints_len] at h1
  have h2 : 2 ^ (w.n - 0).toNat ≤ 2 ^ 9 := Nat.pow_le_pow_right (by decide) (by omega)
  omega
end Lib
end G7

set_option maxRecDepth 100000
namespace G7
open PySem PySem.Spec PyProof.Rows L2
end G7

set_option maxRecDepth 100000
namespace G7
open PySem
namespace Lib
end Lib
end G7

set_option maxRecDepth 100000
namespace G7
open PySem

local macro_rules | `(tactic| walk_at "op") => `(tactic| first
  | with_reducible exact addD_i _ _ | with_reducible exact subD_i _ _ | with_reducible exact ltD_i _ _ | with_reducible exact leD_i _ _ | with_reducible exact gtD_i _ _ | with_reducible exact geD_i _ _
  | with_reducible exact eqD_i _ _ | with_reducible exact neD_i _ _ | with_reducible exact lenD_lm | with_reducible exact lenD_tm | with_reducible exact lenD_l _ | with_reducible exact lenD_t _ | with_reducible exact dP_0 _ | with_reducible exact dP_1 _
  | with_reducible exact ixD_t0 _ _ | with_reducible exact ixD_t1 _ _ _ | with_reducible exact ixD_t2 _ _ _ _ | with_reducible exact ixD_l0 _ _ | with_reducible exact ixD_l0m | with_reducible exact ixD_t0m | exact eqD_sT | exact eqD_sF | exact neD_sT | exact neD_sF | with_reducible exact ixD_l1 _ _ _
  | with_reducible exact Lib.dW_0 _ | with_reducible exact Lib.dW_1 _ | with_reducible exact tupD_l _ | with_reducible exact tupD_t _ | with_reducible exact lstD_l _ | with_reducible exact lstD_t _ | with_reducible exact max2D_i _ _ | with_reducible exact min2D_i _ _
  | with_reducible exact isTD_i | with_reducible exact revT_m | with_reducible exact slL_m1 | with_reducible exact tupRevD_m | ((with_reducible refine' indexD_li ?_); with_reducible assumption) | ((with_reducible refine' indexD_xi ?_); with_reducible assumption) | ((with_reducible refine' Lib.indexD_Xi ?_); with_reducible assumption) | with_reducible exact isTD_s _ _ | with_reducible exact powD_6 | with_reducible exact powD_16 | with_reducible exact powD_18 | with_reducible exact isTD_t _ _ | with_reducible exact isTD_l _ _ | with_reducible exact isTD_b _ _ | with_reducible exact isTD_n _ | with_reducible exact isD_bb _ _ | with_reducible exact isNotD_bb _ _ | with_reducible exact isD_n' () | with_reducible exact isD_lN _ | with_reducible exact isD_tN _ | with_reducible exact isNotD_lN _ | with_reducible exact isNotD_tN _ | with_reducible exact intD_b _ | with_reducible exact intD_i _ | with_reducible exact negD_i _ | with_reducible exact eqD_b _ _ | with_reducible exact neD_b _ _
  | with_reducible exact neD_l0 _ | with_reducible exact eqD_l0 _ | with_reducible exact eqD_li _ _ | with_reducible exact neD_li _ _ | with_reducible exact eqD_ti _ _ | with_reducible exact neD_ti _ _
  | with_reducible exact eqD_lp _ _ | with_reducible exact neD_lp _ _ | with_reducible exact eqD_tp _ _ | with_reducible exact neD_tp _ _
  | with_reducible exact inD_li _ _ | with_reducible exact inD_ti _ _ | with_reducible exact notInD_li _ _ | with_reducible exact notInD_ti _ _ | with_reducible exact inD_lp _ _ | with_reducible exact inD_tp _ _
  | with_reducible exact notInD_lp _ _ | with_reducible exact notInD_tp _ _ | with_reducible exact inD_lp' _ _ _ | with_reducible exact inD_tp' _ _ _ | with_reducible exact notInD_lp' _ _ _ | with_reducible exact notInD_tp' _ _ _
  | with_reducible exact inD_pair _ _ _ | with_reducible exact sortedAD_i _ | with_reducible exact sortedAD_p _ | with_reducible exact allD_b _ | with_reducible exact anyD_b _
  | ((with_reducible refine' addD_1m ?_); omega) | with_reducible exact Lib.maxAD_0 _ | with_reducible exact Lib.din_dI _ _ | with_reducible exact Lib.dinTD_p _ _ | with_reducible exact Lib.dninTD_p _ _ | with_reducible exact Lib.lenTD_p _ | with_reducible exact Lib.sortTLD_p _ | with_reducible exact Lib.dnin_dI _ _ | ((with_reducible apply Lib.dget_dI); with_reducible assumption) | ((with_reducible refine' repLD_0 ?_ ?_) <;> omega) | ((with_reducible refine' slT_tom ?_); omega) | ((with_reducible refine' slT_frm ?_); omega) | ((with_reducible refine' slL_tom ?_); omega) | ((with_reducible refine' slL_frm ?_); omega) | ((with_reducible refine' modD_i ?_); omega) | ((with_reducible refine' fdivD_i ?_ ?_) <;> omega) | ((with_reducible refine' mulID_i (okMul_l ?_ ?_)) <;> omega) | ((with_reducible refine' mulID_i (okMul_r ?_ ?_)) <;> omega)
  | ((with_reducible refine' ixD_lm ?_ ?_) <;> omega) | ((with_reducible refine' ixD_tm ?_ ?_) <;> omega) | with_reducible assumption)
local macro_rules | `(tactic| walk_at "env") => `(tactic| simp only [List.set_cons_zero, List.set_cons_succ, upd, wp_cons, wp_nil, back_cons, back_nil, List.getElem?_cons_zero, List.getElem?_cons_succ, Option.getD_some, toF])
local macro_rules | `(tactic| walk_at "cond") => `(tactic| first | assumption | omega | exact rfl | (focus (simp; done)))
local macro_rules | `(tactic| walk_at "mut") => `(tactic| first | ((with_reducible refine' popAtF_m ?_ ?_) <;> omega) | ((with_reducible refine' appendF_m ?_); first | omega | (simp only [List.length_append, List.length_map, List.length_cons, List.length_nil]; omega)) | ((with_reducible refine' removeF_i ?_); (first | assumption | (simp; done))) | ((with_reducible refine' extendF_m ?_); first | omega | (simp only [List.length_append, List.length_map, List.length_cons, List.length_nil]; omega)))
local macro_rules | `(tactic| walk_at "s") => `(tactic| first
  | with_reducible refine' i_seq ?_ | ((with_reducible apply i_frz); (exact rfl); (first | exact nt_l | exact nt_d)) | ((with_reducible apply i_asV); (exact rfl)) | ((with_reducible apply i_asO); (exact rfl); (first | exact nt_l | exact nt_d)) | with_reducible refine' i_op2 ?_ | with_reducible refine' i_acons ?_ | with_reducible refine' i_anil ?_ | ((with_reducible apply i_var); exact rfl) | with_reducible refine' i_c ?_
  | with_reducible refine' i_asg ?_ | with_reducible refine' i_par ?_ | with_reducible refine' i_par2 ?_ | with_reducible refine' i_call ?_ | with_reducible refine' i_blt ?_ | with_reducible refine' i_op1 ?_ | with_reducible refine' i_tup ?_ | with_reducible refine' i_list ?_
  | ((with_reducible apply i_ex); walk_at "op") | ((with_reducible apply i_exk); walk_at "op")
  | with_reducible refine' i_val ?_ | with_reducible refine' i_exb ?_ | with_reducible refine' i_if ?_ | with_reducible refine' i_ret ?_ | with_reducible refine' i_nil ?_
  | with_reducible refine' i_T ?_ | with_reducible refine' i_F ?_ | with_reducible refine' i_tand ?_ | with_reducible refine' i_tor ?_ | with_reducible refine' i_tnot ?_ | with_reducible refine' i_yes ?_
  | with_reducible refine' i_and ?_ | with_reducible refine' i_or ?_ | with_reducible refine' i_not ?_ | with_reducible refine' i_ife ?_ | with_reducible refine' i_chain ?_
  | with_reducible refine' i_comp ?_ | with_reducible refine' i_iseq ?_ | with_reducible refine' i_irg1 ?_ | with_reducible refine' i_irg2 ?_ | with_reducible refine' i_izip ?_ | with_reducible refine' i_lstZ ?_ | with_reducible refine' i_lzT ?_ | with_reducible refine' i_lzL ?_ | with_reducible refine' i_disp1 ?_ | with_reducible refine' i_keyI ?_ | with_reducible refine' i_zipT ?_ | with_reducible refine' i_zipL ?_ | with_reducible refine' i_ienum ?_ | ((with_reducible apply i_enum); exact rfl) | with_reducible refine' i_irev ?_
  | with_reducible refine' i_for ?_ | with_reducible refine' i_lstrg ?_ | with_reducible refine' i_asgG ?_ | with_reducible refine' i_asgP ?_ | with_reducible refine' i_expr ?_ | with_reducible refine' i_retN ?_ | with_reducible refine' i_brk ?_ | with_reducible refine' i_cnt ?_
  | with_reducible refine' i_on ?_ | with_reducible refine' i_os ?_ | with_reducible refine' i_sl ?_ | ((with_reducible apply i_exl); exact rfl)
  | ((with_reducible refine' i_rg1 ?_ ?_); (constructor <;> omega)) | ((with_reducible refine' i_rg2 ?_ ?_); (refine ⟨?_, ?_, ?_, ?_⟩ <;> omega))
  | with_reducible refine' i_exi ?_
  | (with_reducible refine' i_len (Nat.le_of_ble_eq_true rfl) ?_)
  | ((with_reducible apply i_g); exact rfl) | ((with_reducible refine' i_plix ?_ ?_); exact rfl) | with_reducible refine' i_plset ?_ | with_reducible refine' i_np ?_
  | with_reducible refine' Lib.i_xt ?_ | with_reducible refine' Lib.i_idxX ?_ | with_reducible refine' i_idxL ?_ | with_reducible refine' i_idl ?_ | with_reducible refine' i_idx ?_
  | ((with_reducible apply i_mut1); (exact rfl); walk_at "mut")
  | ((with_reducible apply Lib.i_keysT); exact rfl) | (with_reducible refine' Lib.i_dputT ?_) | ((with_reducible apply Lib.i_dputT0); exact rfl) | ((with_reducible apply Lib.i_dputT1); (exact rfl); omega)
  | (with_reducible refine' Lib.i_dput ?_) | ((with_reducible apply Lib.i_dput0); exact rfl) | ((with_reducible apply Lib.i_dput1); (exact rfl); omega)
  | ((with_reducible refine' i_dT ?_ ?_); walk_at "cond") | ((with_reducible refine' i_dF ?_ ?_); walk_at "cond") | ((with_reducible refine' i_ndT ?_ ?_); walk_at "cond") | ((with_reducible refine' i_ndF ?_ ?_); walk_at "cond")
  | ((with_reducible refine' i_bT ?_ ?_); (first | with_reducible assumption | exact rfl)) | ((with_reducible refine' i_bF ?_ ?_); (first | with_reducible assumption | exact rfl))
  | ((with_reducible apply i_setixm); (exact rfl); omega; omega) | (with_reducible refine' i_setix ?_) | ((with_reducible apply i_setix0); exact rfl) | ((with_reducible apply i_mut); exact rfl))
local macro_rules | `(tactic| walk_at "run") => `(tactic| (repeat (walk_at "s")); try walk_at "env")
local macro_rules | `(tactic| walk_at "start") => `(tactic| simp only [startE, List.map_cons, List.map_nil, List.length_cons, List.length_nil, Nat.reduceAdd, Nat.reduceSub, Nat.zero_add, List.replicate_succ, List.replicate_zero, List.cons_append, List.nil_append])
local macro_rules | `(tactic| walk_at "len") => `(tactic| first | omega | (simp only [List.length_map, List.length_append, List.length_cons, List.length_nil]; omega) | (refine Nat.le_trans ?_ (Nat.le_refl _); have := List.length_filter_le; simp_all; done))
local macro_rules | `(tactic| walk_at "opl") => `(tactic| first | ((with_reducible refine' addD_lm ?_); walk_at "len") | ((with_reducible refine' addD_tm ?_); walk_at "len") | ((with_reducible refine' addLD_lm ?_); walk_at "len"))
/-- a comprehension: of what is walked itself, of ints, pairs, truths -/
local macro_rules | `(tactic| walk_at "comp") => `(tactic| first
  | (refine comp_fil ?_ (fun x hx => ?_) ?_; rotate_left 1; focus ((try have hx1 := Fact.use (by assumption) hx); (try have hx2 := mem_ints.mp hx); (try dsimp only at hx1); refine ⟨_, rfl, fun R hR => ?_, fun hp R hR => ?_, rfl⟩ <;> (repeat (walk_at "s")) <;> exact hR))
  | (refine comp_all (en2 := PySem.PyData.int) ?_ (fun x hx => ?_) ?_; rotate_left 1; focus ((try have hx1 := Fact.use (by assumption) hx); (try have hx2 := mem_ints.mp hx); (try dsimp only at hx1); refine ⟨_, rfl, fun R hR => ?_, rfl⟩ <;> (repeat (walk_at "s")) <;> exact hR))
  | (refine comp_all (en2 := PySem.PyData.bool) ?_ (fun x hx => ?_) ?_; rotate_left 1; focus ((try have hx1 := Fact.use (by assumption) hx); (try have hx2 := mem_ints.mp hx); (try dsimp only at hx1); refine ⟨_, rfl, fun R hR => ?_, rfl⟩ <;> (repeat (walk_at "s")) <;> exact hR))
  | (refine comp_all (en2 := dP) ?_ (fun x hx => ?_) ?_; rotate_left 1; focus ((try have hx1 := Fact.use (by assumption) hx); (try have hx2 := mem_ints.mp hx); (try dsimp only at hx1); refine ⟨_, rfl, fun R hR => ?_, rfl⟩ <;> (repeat (walk_at "s")) <;> exact hR))
  | (refine comp_el (en2 := PySem.PyData.int) ?_ ?_ (fun x hx => ?_) ?_; rotate_left 2; focus ((try have hx1 := Fact.use (by assumption) hx); (try have hx2 := mem_ints.mp hx); (try dsimp only at hx1); refine ⟨_, rfl, fun R hR => ?_, fun hp R hR => ?_, rfl⟩ <;> (repeat (walk_at "s")) <;> exact hR))
  | (refine comp_el (en2 := dP) ?_ ?_ (fun x hx => ?_) ?_; rotate_left 2; focus ((try have hx1 := Fact.use (by assumption) hx); (try have hx2 := mem_ints.mp hx); (try dsimp only at hx1); refine ⟨_, rfl, fun R hR => ?_, fun hp R hR => ?_, rfl⟩ <;> (repeat (walk_at "s")) <;> exact hR))
  | (refine comp_el (en2 := PySem.PyData.bool) ?_ ?_ (fun x hx => ?_) ?_; rotate_left 2; focus ((try have hx1 := Fact.use (by assumption) hx); (try have hx2 := mem_ints.mp hx); (try dsimp only at hx1); refine ⟨_, rfl, fun R hR => ?_, fun hp R hR => ?_, rfl⟩ <;> (repeat (walk_at "s")) <;> exact hR))
  | (refine comp_allD (en2 := PySem.PyData.int) ?_ (fun x hx => ?_) ?_; rotate_left 1; focus ((try have hx1 := Fact.use (by assumption) hx); (try dsimp only at hx1); refine ⟨_, rfl, fun R hR => ?_, rfl⟩ <;> (repeat (walk_at "s")) <;> exact hR))
  | (refine comp_allD (en2 := PySem.PyData.bool) ?_ (fun x hx => ?_) ?_; rotate_left 1; focus ((try have hx1 := Fact.use (by assumption) hx); (try dsimp only at hx1); refine ⟨_, rfl, fun R hR => ?_, rfl⟩ <;> (repeat (walk_at "s")) <;> exact hR)))
local macro_rules | `(tactic| walk_at "runc") => `(tactic| (repeat (first | walk_at "s" | walk_at "comp")); try walk_at "env")
/-- as run, but stops ahead of an if -/
local macro_rules | `(tactic| walk_at "runI") => `(tactic| (repeat ((fail_if_success (with_reducible refine' i_if ?_)); walk_at "s")); try walk_at "env")
open PySem
namespace Lib
/-- with_tie: slots 0 web:r, 1 a:r, 2 b:r; modes ['rd', 'rd', 'rd']; answer fz -/
def wb_with_tieP (S_tie_of : FS) : WS :=
  (wRet (wTup (waCons (wOp2 ixD (wVar 0) (wC (.int 0))) (waCons (wBlt tupD (waCons (wBlt sortedTD (waCons (wOp2 addD (wOp2 ixD (wVar 0) (wC (.int 1))) (wTup (waCons (wCall S_tie_of (waCons (wVar 1) (waCons (wVar 2) waNil))) waNil))) waNil)) waNil)) waNil))))
def S_with_tieP : FS := fun ds Post => ∃ w a b, ds = [dW w, .int a, .int b] ∧ w.ok ∧ Post (dW (withW w (pr a b)))
theorem m_with_tieP {rk : RK} : ∀ ds Post, S_with_tieP ds Post → wb_with_tieP S_l_pair { nx := fun _ => Post .none ∧ rk = .fz, rt := fun d _ => Post d } (startE 3 ds) := by
  rintro ds Post ⟨w, a, b, rfl, o, hP⟩
  have h20 := o.len
  unfold wb_with_tieP
  walk_at "start"
  walk_at "run"
  refine ⟨a, b, rfl, ?_⟩
  walk_at "run"
  refine ⟨_, addD_tm1 (by omega), ?_⟩
  walk_at "run"
  refine ⟨_, sortedTD_p _, ?_⟩
  walk_at "run"
  exact hP
end Lib
end G7
set_option maxRecDepth 100000
namespace G7
open PySem

local macro_rules | `(tactic| walk_at "op") => `(tactic| first
  | with_reducible exact addD_i _ _ | with_reducible exact subD_i _ _ | with_reducible exact ltD_i _ _ | with_reducible exact leD_i _ _ | with_reducible exact gtD_i _ _ | with_reducible exact geD_i _ _
  | with_reducible exact eqD_i _ _ | with_reducible exact neD_i _ _ | with_reducible exact lenD_lm | with_reducible exact lenD_tm | with_reducible exact lenD_l _ | with_reducible exact lenD_t _ | with_reducible exact dP_0 _ | with_reducible exact dP_1 _
  | with_reducible exact ixD_t0 _ _ | with_reducible exact ixD_t1 _ _ _ | with_reducible exact ixD_t2 _ _ _ _ | with_reducible exact ixD_l0 _ _ | with_reducible exact ixD_l0m | with_reducible exact ixD_t0m | exact eqD_sT | exact eqD_sF | exact neD_sT | exact neD_sF | with_reducible exact ixD_l1 _ _ _
  | with_reducible exact Lib.dW_0 _ | with_reducible exact Lib.dW_1 _ | with_reducible exact tupD_l _ | with_reducible exact tupD_t _ | with_reducible exact lstD_l _ | with_reducible exact lstD_t _ | with_reducible exact max2D_i _ _ | with_reducible exact min2D_i _ _
  | with_reducible exact isTD_i | with_reducible exact revT_m | with_reducible exact slL_m1 | with_reducible exact tupRevD_m | ((with_reducible refine' indexD_li ?_); with_reducible assumption) | ((with_reducible refine' indexD_xi ?_); with_reducible assumption) | ((with_reducible refine' Lib.indexD_Xi ?_); with_reducible assumption) | with_reducible exact isTD_s _ _ | with_reducible exact powD_6 | with_reducible exact powD_16 | with_reducible exact powD_18 | with_reducible exact isTD_t _ _ | with_reducible exact isTD_l _ _ | with_reducible exact isTD_b _ _ | with_reducible exact isTD_n _ | with_reducible exact isD_bb _ _ | with_reducible exact isNotD_bb _ _ | with_reducible exact isD_n' () | with_reducible exact isD_lN _ | with_reducible exact isD_tN _ | with_reducible exact isNotD_lN _ | with_reducible exact isNotD_tN _ | with_reducible exact intD_b _ | with_reducible exact intD_i _ | with_reducible exact negD_i _ | with_reducible exact eqD_b _ _ | with_reducible exact neD_b _ _
  | with_reducible exact neD_l0 _ | with_reducible exact eqD_l0 _ | with_reducible exact eqD_li _ _ | with_reducible exact neD_li _ _ | with_reducible exact eqD_ti _ _ | with_reducible exact neD_ti _ _
  | with_reducible exact eqD_lp _ _ | with_reducible exact neD_lp _ _ | with_reducible exact eqD_tp _ _ | with_reducible exact neD_tp _ _
  | with_reducible exact inD_li _ _ | with_reducible exact inD_ti _ _ | with_reducible exact notInD_li _ _ | with_reducible exact notInD_ti _ _ | with_reducible exact inD_lp _ _ | with_reducible exact inD_tp _ _
  | with_reducible exact notInD_lp _ _ | with_reducible exact notInD_tp _ _ | with_reducible exact inD_lp' _ _ _ | with_reducible exact inD_tp' _ _ _ | with_reducible exact notInD_lp' _ _ _ | with_reducible exact notInD_tp' _ _ _
  | with_reducible exact inD_pair _ _ _ | with_reducible exact sortedAD_i _ | with_reducible exact sortedAD_p _ | with_reducible exact allD_b _ | with_reducible exact anyD_b _
  | ((with_reducible refine' addD_1m ?_); omega) | with_reducible exact Lib.maxAD_0 _ | with_reducible exact Lib.din_dI _ _ | with_reducible exact Lib.dinTD_p _ _ | with_reducible exact Lib.dninTD_p _ _ | with_reducible exact Lib.lenTD_p _ | with_reducible exact Lib.sortTLD_p _ | with_reducible exact Lib.dnin_dI _ _ | ((with_reducible apply Lib.dget_dI); with_reducible assumption) | ((with_reducible refine' repLD_0 ?_ ?_) <;> omega) | ((with_reducible refine' slT_tom ?_); omega) | ((with_reducible refine' slT_frm ?_); omega) | ((with_reducible refine' slL_tom ?_); omega) | ((with_reducible refine' slL_frm ?_); omega) | ((with_reducible refine' modD_i ?_); omega) | ((with_reducible refine' fdivD_i ?_ ?_) <;> omega) | ((with_reducible refine' mulID_i (okMul_l ?_ ?_)) <;> omega) | ((with_reducible refine' mulID_i (okMul_r ?_ ?_)) <;> omega)
  | ((with_reducible refine' ixD_lm ?_ ?_) <;> omega) | ((with_reducible refine' ixD_tm ?_ ?_) <;> omega) | with_reducible assumption)
local macro_rules | `(tactic| walk_at "env") => `(tactic| simp only [List.set_cons_zero, List.set_cons_succ, upd, wp_cons, wp_nil, back_cons, back_nil, List.getElem?_cons_zero, List.getElem?_cons_succ, Option.getD_some, toF])
local macro_rules | `(tactic| walk_at "cond") => `(tactic| first | assumption | omega | exact rfl | (focus (simp; done)))
local macro_rules | `(tactic| walk_at "mut") => `(tactic| first | ((with_reducible refine' popAtF_m ?_ ?_) <;> omega) | ((with_reducible refine' appendF_m ?_); first | omega | (simp only [List.length_append, List.length_map, List.length_cons, List.length_nil]; omega)) | ((with_reducible refine' removeF_i ?_); (first | assumption | (simp; done))) | ((with_reducible refine' extendF_m ?_); first | omega | (simp only [List.length_append, List.length_map, List.length_cons, List.length_nil]; omega)))
local macro_rules | `(tactic| walk_at "s") => `(tactic| first
  | with_reducible refine' i_seq ?_ | ((with_reducible apply i_frz); (exact rfl); (first | exact nt_l | exact nt_d)) | ((with_reducible apply i_asV); (exact rfl)) | ((with_reducible apply i_asO); (exact rfl); (first | exact nt_l | exact nt_d)) | with_reducible refine' i_op2 ?_ | with_reducible refine' i_acons ?_ | with_reducible refine' i_anil ?_ | ((with_reducible apply i_var); exact rfl) | with_reducible refine' i_c ?_
  | with_reducible refine' i_asg ?_ | with_reducible refine' i_par ?_ | with_reducible refine' i_par2 ?_ | with_reducible refine' i_call ?_ | with_reducible refine' i_blt ?_ | with_reducible refine' i_op1 ?_ | with_reducible refine' i_tup ?_ | with_reducible refine' i_list ?_
  | ((with_reducible apply i_ex); walk_at "op") | ((with_reducible apply i_exk); walk_at "op")
  | with_reducible refine' i_val ?_ | with_reducible refine' i_exb ?_ | with_reducible refine' i_if ?_ | with_reducible refine' i_ret ?_ | with_reducible refine' i_nil ?_
  | with_reducible refine' i_T ?_ | with_reducible refine' i_F ?_ | with_reducible refine' i_tand ?_ | with_reducible refine' i_tor ?_ | with_reducible refine' i_tnot ?_ | with_reducible refine' i_yes ?_
  | with_reducible refine' i_and ?_ | with_reducible refine' i_or ?_ | with_reducible refine' i_not ?_ | with_reducible refine' i_ife ?_ | with_reducible refine' i_chain ?_
  | with_reducible refine' i_comp ?_ | with_reducible refine' i_iseq ?_ | with_reducible refine' i_irg1 ?_ | with_reducible refine' i_irg2 ?_ | with_reducible refine' i_izip ?_ | with_reducible refine' i_lstZ ?_ | with_reducible refine' i_lzT ?_ | with_reducible refine' i_lzL ?_ | with_reducible refine' i_disp1 ?_ | with_reducible refine' i_keyI ?_ | with_reducible refine' i_zipT ?_ | with_reducible refine' i_zipL ?_ | with_reducible refine' i_ienum ?_ | ((with_reducible apply i_enum); exact rfl) | with_reducible refine' i_irev ?_
  | with_reducible refine' i_for ?_ | with_reducible refine' i_lstrg ?_ | with_reducible refine' i_asgG ?_ | with_reducible refine' i_asgP ?_ | with_reducible refine' i_expr ?_ | with_reducible refine' i_retN ?_ | with_reducible refine' i_brk ?_ | with_reducible refine' i_cnt ?_
  | with_reducible refine' i_on ?_ | with_reducible refine' i_os ?_ | with_reducible refine' i_sl ?_ | ((with_reducible apply i_exl); exact rfl)
  | ((with_reducible refine' i_rg1 ?_ ?_); (constructor <;> omega)) | ((with_reducible refine' i_rg2 ?_ ?_); (refine ⟨?_, ?_, ?_, ?_⟩ <;> omega))
  | with_reducible refine' i_exi ?_
  | (with_reducible refine' i_len (Nat.le_of_ble_eq_true rfl) ?_)
  | ((with_reducible apply i_g); exact rfl) | ((with_reducible refine' i_plix ?_ ?_); exact rfl) | with_reducible refine' i_plset ?_ | with_reducible refine' i_np ?_
  | with_reducible refine' Lib.i_xt ?_ | with_reducible refine' Lib.i_idxX ?_ | with_reducible refine' i_idxL ?_ | with_reducible refine' i_idl ?_ | with_reducible refine' i_idx ?_
  | ((with_reducible apply i_mut1); (exact rfl); walk_at "mut")
  | ((with_reducible apply Lib.i_keysT); exact rfl) | (with_reducible refine' Lib.i_dputT ?_) | ((with_reducible apply Lib.i_dputT0); exact rfl) | ((with_reducible apply Lib.i_dputT1); (exact rfl); omega)
  | (with_reducible refine' Lib.i_dput ?_) | ((with_reducible apply Lib.i_dput0); exact rfl) | ((with_reducible apply Lib.i_dput1); (exact rfl); omega)
  | ((with_reducible refine' i_dT ?_ ?_); walk_at "cond") | ((with_reducible refine' i_dF ?_ ?_); walk_at "cond") | ((with_reducible refine' i_ndT ?_ ?_); walk_at "cond") | ((with_reducible refine' i_ndF ?_ ?_); walk_at "cond")
  | ((with_reducible refine' i_bT ?_ ?_); (first | with_reducible assumption | exact rfl)) | ((with_reducible refine' i_bF ?_ ?_); (first | with_reducible assumption | exact rfl))
  | ((with_reducible apply i_setixm); (exact rfl); omega; omega) | (with_reducible refine' i_setix ?_) | ((with_reducible apply i_setix0); exact rfl) | ((with_reducible apply i_mut); exact rfl))
local macro_rules | `(tactic| walk_at "run") => `(tactic| (repeat (walk_at "s")); try walk_at "env")
local macro_rules | `(tactic| walk_at "start") => `(tactic| simp only [startE, List.map_cons, List.map_nil, List.length_cons, List.length_nil, Nat.reduceAdd, Nat.reduceSub, Nat.zero_add, List.replicate_succ, List.replicate_zero, List.cons_append, List.nil_append])
local macro_rules | `(tactic| walk_at "len") => `(tactic| first | omega | (simp only [List.length_map, List.length_append, List.length_cons, List.length_nil]; omega) | (refine Nat.le_trans ?_ (Nat.le_refl _); have := List.length_filter_le; simp_all; done))
local macro_rules | `(tactic| walk_at "opl") => `(tactic| first | ((with_reducible refine' addD_lm ?_); walk_at "len") | ((with_reducible refine' addD_tm ?_); walk_at "len") | ((with_reducible refine' addLD_lm ?_); walk_at "len"))
/-- a comprehension: of what is walked itself, of ints, pairs, truths -/
local macro_rules | `(tactic| walk_at "comp") => `(tactic| first
  | (refine comp_fil ?_ (fun x hx => ?_) ?_; rotate_left 1; focus ((try have hx1 := Fact.use (by assumption) hx); (try have hx2 := mem_ints.mp hx); (try dsimp only at hx1); refine ⟨_, rfl, fun R hR => ?_, fun hp R hR => ?_, rfl⟩ <;> (repeat (walk_at "s")) <;> exact hR))
  | (refine comp_all (en2 := PySem.PyData.int) ?_ (fun x hx => ?_) ?_; rotate_left 1; focus ((try have hx1 := Fact.use (by assumption) hx); (try have hx2 := mem_ints.mp hx); (try dsimp only at hx1); refine ⟨_, rfl, fun R hR => ?_, rfl⟩ <;> (repeat (walk_at "s")) <;> exact hR))
  | (refine comp_all (en2 := PySem.PyData.bool) ?_ (fun x hx => ?_) ?_; rotate_left 1; focus ((try have hx1 := Fact.use (by assumption) hx); (try have hx2 := mem_ints.mp hx); (try dsimp only at hx1); refine ⟨_, rfl, fun R hR => ?_, rfl⟩ <;> (repeat (walk_at "s")) <;> exact hR))
  | (refine comp_all (en2 := dP) ?_ (fun x hx => ?_) ?_; rotate_left 1; focus ((try have hx1 := Fact.use (by assumption) hx); (try have hx2 := mem_ints.mp hx); (try dsimp only at hx1); refine ⟨_, rfl, fun R hR => ?_, rfl⟩ <;> (repeat (walk_at "s")) <;> exact hR))
  | (refine comp_el (en2 := PySem.PyData.int) ?_ ?_ (fun x hx => ?_) ?_; rotate_left 2; focus ((try have hx1 := Fact.use (by assumption) hx); (try have hx2 := mem_ints.mp hx); (try dsimp only at hx1); refine ⟨_, rfl, fun R hR => ?_, fun hp R hR => ?_, rfl⟩ <;> (repeat (walk_at "s")) <;> exact hR))
  | (refine comp_el (en2 := dP) ?_ ?_ (fun x hx => ?_) ?_; rotate_left 2; focus ((try have hx1 := Fact.use (by assumption) hx); (try have hx2 := mem_ints.mp hx); (try dsimp only at hx1); refine ⟨_, rfl, fun R hR => ?_, fun hp R hR => ?_, rfl⟩ <;> (repeat (walk_at "s")) <;> exact hR))
  | (refine comp_el (en2 := PySem.PyData.bool) ?_ ?_ (fun x hx => ?_) ?_; rotate_left 2; focus ((try have hx1 := Fact.use (by assumption) hx); (try have hx2 := mem_ints.mp hx); (try dsimp only at hx1); refine ⟨_, rfl, fun R hR => ?_, fun hp R hR => ?_, rfl⟩ <;> (repeat (walk_at "s")) <;> exact hR))
  | (refine comp_allD (en2 := PySem.PyData.int) ?_ (fun x hx => ?_) ?_; rotate_left 1; focus ((try have hx1 := Fact.use (by assumption) hx); (try dsimp only at hx1); refine ⟨_, rfl, fun R hR => ?_, rfl⟩ <;> (repeat (walk_at "s")) <;> exact hR))
  | (refine comp_allD (en2 := PySem.PyData.bool) ?_ (fun x hx => ?_) ?_; rotate_left 1; focus ((try have hx1 := Fact.use (by assumption) hx); (try dsimp only at hx1); refine ⟨_, rfl, fun R hR => ?_, rfl⟩ <;> (repeat (walk_at "s")) <;> exact hR)))
local macro_rules | `(tactic| walk_at "runc") => `(tactic| (repeat (first | walk_at "s" | walk_at "comp")); try walk_at "env")
/-- as run, but stops ahead of an if -/
local macro_rules | `(tactic| walk_at "runI") => `(tactic| (repeat ((fail_if_success (with_reducible refine' i_if ?_)); walk_at "s")); try walk_at "env")
open PySem
namespace Lib
def tieB (n : Int) : D → Bool
  | .tuple [a, b] => placeB n a && placeB n b && (match a, b with | .int i, .int j => decide (i < j) | _, _ => false)
  | _ => false
/-- no tuple known whole -/
def nx (d : D) : Prop := (∀ xs, d ≠ xtD xs) ∧ ∀ xs, d ≠ ktD xs
theorem nx_t {d : D} (h : nx d) (ht : isT "tuple" (tyD d) = true) : ∃ xs, d = .tuple xs := by
  cases d with
  | tuple xs => exact ⟨xs, rfl⟩
  | dict kv =>
    match kv, h, ht with
    | [(.none, .tuple xs)], h, _ => exact absurd rfl (h.1 xs)
    | [(.bool true, .tuple xs)], h, _ => exact absurd rfl (h.2 xs)
    | [], _, ht => simp [tyD, isT] at ht
    | [(.none, .none)], _, ht => simp [tyD, isT] at ht
    | [(.none, .bool _)], _, ht => simp [tyD, isT] at ht
    | [(.none, .int _)], _, ht => simp [tyD, isT] at ht
    | [(.none, .str _)], _, ht => simp [tyD, isT] at ht
    | [(.none, .list _)], _, ht => simp [tyD, isT] at ht
    | [(.none, .dict _)], _, ht => simp [tyD, isT] at ht
    | [(.bool true, .none)], _, ht => simp [tyD, isT] at ht
    | [(.bool true, .bool _)], _, ht => simp [tyD, isT] at ht
    | [(.bool true, .int _)], _, ht => simp [tyD, isT] at ht
    | [(.bool true, .str _)], _, ht => simp [tyD, isT] at ht
    | [(.bool true, .list _)], _, ht => simp [tyD, isT] at ht
    | [(.bool true, .dict _)], _, ht => simp [tyD, isT] at ht
    | [(.bool false, b)], _, ht => cases b <;> simp [tyD, isT] at ht
    | [(.int _, _)], _, ht => simp [tyD, isT] at ht
    | [(.str _, _)], _, ht => simp [tyD, isT] at ht
    | [(.list _, _)], _, ht => simp [tyD, isT] at ht
    | [(.tuple _, _)], _, ht => simp [tyD, isT] at ht
    | [(.dict _, _)], _, ht => simp [tyD, isT] at ht
    | _ :: _ :: _, _, ht => simp [tyD, isT] at ht
  | _ => simp [tyD, isT] at ht
theorem tieB_nt {n : Int} {d : D} (h : isT "tuple" (tyD d) = false) : tieB n d = false := by
  cases d with
  | tuple xs => simp [tyD, isT] at h
  | _ => rfl
theorem tieB_len {n : Int} {xs : List D} (h : xs.length ≠ 2) : tieB n (.tuple xs) = false := by
  match xs, h with
  | [], _ => rfl
  | [_], _ => rfl
  | [_, _], h => exact absurd rfl h
  | _ :: _ :: _ :: _, _ => rfl
theorem len2 {xs : List D} (h : xs.length = 2) : ∃ a b, xs = [a, b] := by
  match xs, h with
  | [a, b], _ => exact ⟨a, b, rfl⟩
theorem lenD_t (xs : List D) : lenD [.tuple xs] = some (.int xs.length) := by simp [lenD]
def ltP (p q : Int × Int) : Bool := HT.lexLt [p.1, p.2] [q.1, q.2]
theorem ltD_dP (p q : Int × Int) : ltD (dP p) (dP q) = some (.bool (ltP p q)) := rfl
def consB : List (Int × Int) → Bool
  | [] => true
  | [_] => true
  | p :: q :: r => ltP p q && consB (q :: r)
theorem consB_pre : ∀ {a b : List (Int × Int)}, consB (a ++ b) = true → consB a = true
  | [], _, _ => rfl
  | [_], _, _ => rfl
  | p :: q :: r, b, h => by
    simp only [List.cons_append, consB, Bool.and_eq_true] at h ⊢
    exact ⟨h.1, consB_pre (a := q :: r) h.2⟩
def lastP (ps : List (Int × Int)) : Int × Int := ps.getLast?.getD (-1, -1)
theorem consB_snoc : ∀ {a : List (Int × Int)} {p : Int × Int}, consB (a ++ [p]) = (consB a && (a.isEmpty || ltP (lastP a) p))
  | [], _ => rfl
  | [q], p => by simp [consB, lastP]
  | q :: r :: s, p => by
    have := consB_snoc (a := r :: s) (p := p)
    simp only [List.cons_append, consB] at this ⊢
    rw [this]
    have e : lastP (q :: r :: s) = lastP (r :: s) := by simp [lastP]
    rw [e]
    simp [Bool.and_assoc]
def okP (n : Int) (p : Int × Int) : Bool := decide (0 ≤ p.1) && decide (p.1 < p.2) && decide (p.2 < n)
theorem tieB_dP {n : Int} {p : Int × Int} : tieB n (dP p) = okP n p := by
  simp only [tieB, dP, placeB, okP]
  by_cases a : 0 ≤ p.1 <;> by_cases b : p.1 < p.2 <;> by_cases c : p.2 < n <;> simp [a, b, c] <;> omega
def tiesB (n : Int) (ts : List D) : Bool := (ts.map (tieB n)).all id && (match pairsD ts with | some ps => consB ps | none => false)
theorem tiesB_dP {n : Int} {ps : List (Int × Int)} (h : ps.all (okP n) = true) : tiesB n (ps.map dP) = consB ps := by
  have e : ((ps.map dP).map (tieB n)).all id = true := by
    rw [List.all_eq_true] at h ⊢
    intro b hb
    rw [List.map_map] at hb
    obtain ⟨p, hp, rfl⟩ := List.mem_map.mp hb
    show id (tieB n (dP p)) = true
    rw [tieB_dP]; exact h p hp
  unfold tiesB
  rw [e, pairsD_dP]
  simp
theorem tiesB_no {n : Int} {ts : List D} {t : D} (ht : t ∈ ts) (h : tieB n t = false) : tiesB n ts = false := by
  unfold tiesB
  have : (ts.map (tieB n)).all id = false := by
    rw [List.all_eq_false]
    exact ⟨false, List.mem_map.mpr ⟨t, ht, h⟩, by simp⟩
  rw [this]; rfl
def webB : D → Bool
  | .tuple [.int n, .tuple ts] => decide (1 ≤ n) && decide (n ≤ 9) && decide (ts.length ≤ 20) && tiesB n ts
  | _ => false
theorem webB_1 {a b : D} (h : (tyD a == "int") = false) : webB (.tuple [a, b]) = false := by
  cases a <;> first | rfl | (exfalso; simp [tyD] at h)
theorem webB_2 {a b : D} (h : isT "tuple" (tyD b) = false) : webB (.tuple [a, b]) = false := by
  cases a <;> cases b <;> first | rfl | (exfalso; simp [tyD, isT] at h; done)
theorem webB_len {xs : List D} (h : xs.length ≠ 2) : webB (.tuple xs) = false := by
  unfold webB
  split
  · next e => injection e with e; subst e; exact absurd rfl h
  · rfl
theorem webB_nt {d : D} (h : isT "tuple" (tyD d) = false) : webB d = false := by
  cases d with
  | tuple xs => simp [tyD, isT] at h
  | _ => rfl
def goodW (x : D) : Prop := nx x ∧ ∀ a b, x = .tuple [a, b] → nx a ∧ nx b ∧ ∀ ts, b = .tuple ts → ts.length ≤ 1000 ∧ ∀ t ∈ ts, nx t
theorem dP_inj1 {p q : Int × Int} (h : dP p = dP q) : p = q := by
  obtain ⟨a, b⟩ := p
  obtain ⟨c, d⟩ := q
  unfold dP at h
  injection h with h
  injection h with h1 h2
  injection h2 with h2 _
  injection h1 with h1
  injection h2 with h2
  subst h1; subst h2; rfl
theorem map_dP_inj : ∀ {a b : List (Int × Int)}, a.map dP = b.map dP → a = b
  | [], [], _ => rfl
  | [], _ :: _, h => by simp at h
  | _ :: _, [], h => by simp at h
  | p :: a, q :: b, h => by
    rw [List.map_cons, List.map_cons] at h
    injection h with h1 h2
    rw [dP_inj1 h1, map_dP_inj h2]
theorem i_chain3 {f g h : D → D → Option D} {a b c d : WE} {e : En} {Q : D → En → Prop} (k : a e fun x e1 => b e1 fun y e2 => ∃ k, f x y = some (.bool k) ∧ if k = true then c e2 fun z e3 => ∃ k2, g y z = some (.bool k2) ∧ if k2 = true then d e3 fun w e4 => ∃ r, h z w = some r ∧ Q r e4 else Q (.bool false) e3 else Q (.bool false) e2) : wChain3 f g h a b c d e Q := k
/-- _law_is_web: slots 0 thing:r, 1 last:v, 2 tie:v; modes ['rd']; answer fz -/
def wb_l_is_webA (S_l_sound : FS) : WS :=
  (wSeq (wIf (tOr (tNot (tVal (wOp1 (isTD "tuple") (wVar 0)))) (tOr (tVal (wOp2 neD (wBlt lenD (waCons (wVar 0) waNil)) (wC (.int 2)))) (tOr (tNot (tVal (wCall S_l_sound (waCons (wOp2 ixD (wVar 0) (wC (.int 0))) waNil)))) (tNot (tVal (wOp1 (isTD "tuple") (wOp2 ixD (wVar 0) (wC (.int 1))))))))) (wRet (wC (.bool false))) wNil)
    (wSeq (wIf (tOr (tNot (tVal (wChain ltD ltD (wC (.int 0)) (wOp2 ixD (wVar 0) (wC (.int 0))) (wC (.int 10))))) (tVal (wOp2 gtD (wBlt lenD (waCons (wOp2 ixD (wVar 0) (wC (.int 1))) waNil)) (wC (.int 20))))) (wRet (wC (.bool false))) wNil)
    (wSeq (wAsg 1 (wTup (waCons (wOp1 negD (wC (.int 1))) (waCons (wOp1 negD (wC (.int 1))) waNil))))
    (wSeq (wFor (wiSeq (wOp2 ixD (wVar 0) (wC (.int 1)))) (gN 2) (wSeq (wIf (tOr (tNot (tVal (wOp1 (isTD "tuple") (wVar 2)))) (tOr (tVal (wOp2 neD (wBlt lenD (waCons (wVar 2) waNil)) (wC (.int 2)))) (tOr (tNot (tVal (wCall S_l_sound (waCons (wOp2 ixD (wVar 2) (wC (.int 0))) waNil)))) (tNot (tVal (wCall S_l_sound (waCons (wOp2 ixD (wVar 2) (wC (.int 1))) waNil))))))) (wRet (wC (.bool false))) wNil)
    (wSeq (wIf (tOr (tNot (tVal (wChain3 leD ltD ltD (wC (.int 0)) (wOp2 ixD (wVar 2) (wC (.int 0))) (wOp2 ixD (wVar 2) (wC (.int 1))) (wOp2 ixD (wVar 0) (wC (.int 0)))))) (tNot (tVal (wOp2 ltD (wVar 1) (wVar 2))))) (wRet (wC (.bool false))) wNil)
    (wAsg 1 (wVar 2)))))
    (wRet (wC (.bool true)))))))
def S_l_is_webA : FS := fun ds Post => ∃ x, ds = [x] ∧ goodW x ∧ Post (.bool (webB x))
set_option maxHeartbeats 4000000 in
theorem m_l_is_webA {rk : RK} : ∀ ds Post, S_l_is_webA ds Post → wb_l_is_webA S_l_sound { nx := fun _ => Post .none ∧ rk = .fz, rt := fun d _ => Post d } (startE 3 ds) := by
  rintro ds Post ⟨x, rfl, ⟨hx, hg⟩, hP⟩
  unfold wb_l_is_webA
  walk_at "start"
  walk_at "run"
  refine ⟨_, rfl, ?_⟩
  cases ht : isT "tuple" (tyD x)
  · rw [webB_nt ht] at hP
    walk_at "run"
    exact hP
  obtain ⟨xs, rfl⟩ := nx_t hx ht
  by_cases h2 : ¬ xs.length = 2
  · rw [webB_len h2] at hP
    have h2' : ¬ (xs.length : Int) = 2 := by omega
    walk_at "run"
    exact hP
  obtain ⟨a, b, rfl⟩ := len2 (Classical.not_not.mp h2)
  obtain ⟨ha, hb, hts⟩ := hg a b rfl
  have f0 : ixD (.tuple [a, b]) (.int 0) = some a := rfl
  have f1 : ixD (.tuple [a, b]) (.int 1) = some b := rfl
  walk_at "run"
  refine ⟨a, rfl, ?_⟩
  cases ha1 : tyD a == "int"
  · rw [webB_1 ha1] at hP
    walk_at "run"
    exact hP
  obtain ⟨n, rfl⟩ := tyD_int ha1
  walk_at "run"
  refine ⟨_, rfl, ?_⟩
  cases hbt : isT "tuple" (tyD b)
  · rw [webB_2 hbt] at hP
    walk_at "run"
    exact hP
  obtain ⟨ts, rfl⟩ := nx_t hb hbt
  obtain ⟨hl, hn⟩ := hts ts rfl
  by_cases hn1 : ¬ 0 < n
  · have : webB (.tuple [.int n, .tuple ts]) = false := by simp [webB, show ¬ 1 ≤ n by omega]
    rw [this] at hP
    walk_at "run"
    exact hP
  have hn1 : 0 < n := Classical.not_not.mp hn1
  by_cases hn9 : ¬ n < 10
  · have : webB (.tuple [.int n, .tuple ts]) = false := by simp [webB, show ¬ n ≤ 9 by omega]
    rw [this] at hP
    walk_at "run"
    exact hP
  have hn9 : n < 10 := Classical.not_not.mp hn9
  have hw : webB (.tuple [.int n, .tuple ts]) = (decide (ts.length ≤ 20) && tiesB n ts) := by
    simp [webB, show 1 ≤ n by omega, show n ≤ 9 by omega]
  rw [hw] at hP
  by_cases h20 : ¬ ts.length ≤ 20
  · have h20' : (20 : Int) < ts.length := by omega
    rw [decide_eq_false h20] at hP
    walk_at "run"
    exact hP
  have h20 : ts.length ≤ 20 := Classical.not_not.mp h20
  have h20' : ¬ (20 : Int) < ts.length := by omega
  rw [decide_eq_true h20, Bool.true_and] at hP
  walk_at "run"
  have hm1 : (PyData.tuple [.int (-1), .int (-1)] : D) = dP (-1, -1) := rfl
  rw [hm1]
  refine Eq.mp (congrArg (fun l => forL _ _ _ l _) (List.map_id ts)) ?_
  refine for_st (enc := id) [1, 2] (fun pre vs => ∃ (ps : List (Int × Int)) (y : Option D), pre = ps.map dP ∧ ps.all (okP n) = true ∧ consB ps = true ∧ vs = [some (dP (lastP ps)), y]) [_, _] rfl ⟨[], _, rfl, rfl, rfl, rfl⟩ ?_ ?_
  · rintro pre t post _ hL ⟨ps, y, rfl, hok, hcb, rfl⟩ R hR
    have ht : t ∈ ts := by rw [hL]; simp
    have hnt := hn t ht
    simp only [id]
    walk_at "run"
    refine ⟨_, rfl, ?_⟩
    cases htt : isT "tuple" (tyD t)
    · rw [tiesB_no ht (tieB_nt htt)] at hP
      walk_at "run"
      exact hP
    obtain ⟨ys, rfl⟩ := nx_t hnt htt
    by_cases h2 : ¬ ys.length = 2
    · rw [tiesB_no ht (tieB_len h2)] at hP
      have h2' : ¬ (ys.length : Int) = 2 := by omega
      walk_at "run"
      exact hP
    obtain ⟨u, v, rfl⟩ := len2 (Classical.not_not.mp h2)
    have g0 : ixD (.tuple [u, v]) (.int 0) = some u := rfl
    have g1 : ixD (.tuple [u, v]) (.int 1) = some v := rfl
    walk_at "run"
    refine ⟨u, rfl, ?_⟩
    cases hu : tyD u == "int"
    · rw [tiesB_no ht (by simp [tieB, tyD_nint hu])] at hP
      walk_at "run"
      exact hP
    obtain ⟨i, rfl⟩ := tyD_int hu
    walk_at "run"
    refine ⟨v, rfl, ?_⟩
    cases hv : tyD v == "int"
    · rw [tiesB_no ht (by simp [tieB, tyD_nint hv])] at hP
      walk_at "run"
      exact hP
    obtain ⟨j, rfl⟩ := tyD_int hv
    have htd : (PyData.tuple [.int i, .int j] : D) = dP (i, j) := rfl
    have hno : okP n (i, j) = false → Post (.bool false) := fun h => by
      rw [tiesB_no ht (by rw [htd, tieB_dP]; exact h)] at hP
      exact hP
    walk_at "run"
    refine i_chain3 ?_
    by_cases hi0 : ¬ 0 ≤ i
    · walk_at "run"
      exact hno (by simp [okP, hi0])
    have hi0 : 0 ≤ i := Classical.not_not.mp hi0
    by_cases hij : ¬ i < j
    · walk_at "run"
      exact hno (by simp [okP, hij])
    have hij : i < j := Classical.not_not.mp hij
    by_cases hjn : ¬ j < n
    · walk_at "run"
      exact hno (by simp [okP, hjn])
    have hjn : j < n := Classical.not_not.mp hjn
    have hokp : okP n (i, j) = true := by simp [okP, hi0, hij, hjn]
    have hlt : ltD (dP (lastP ps)) (.tuple [.int i, .int j]) = some (.bool (ltP (lastP ps) (i, j))) := ltD_dP _ (i, j)
    have hok2 : (ps ++ [(i, j)]).all (okP n) = true := by rw [List.all_append, hok]; simp [hokp]
    have hemp : ps.isEmpty = true → ltP (lastP ps) (i, j) = true := fun h => by
      have : ps = [] := by simpa using h
      subst this
      have e : lastP [] = (-1, -1) := rfl
      rw [e]
      unfold ltP
      simp only [HT.lexLt]
      rw [if_neg (by omega)]
      exact decide_eq_true (by omega)
    cases hll : ltP (lastP ps) (i, j)
    · have hcf : consB (ps ++ [(i, j)]) = false := by
        rw [consB_snoc, hll, Bool.or_false]
        cases he : ps.isEmpty
        · simp
        · rw [hemp he] at hll; cases hll
      have hfin : Post (.bool false) := by
        have : tiesB n ts = false := by
          unfold tiesB
          cases hpd : pairsD ts with
          | none => simp
          | some qs =>
            have e := pairsD_map hpd
            rw [hL] at e
            have e2 : qs = ps ++ (i, j) :: qs.drop (ps.length + 1) := by
              have h3 := congrArg (fun l => pairsD l) e
              have h4 : pairsD (qs.map dP) = some qs := pairsD_dP qs
              rw [← e] at h4
              have h5 : ∃ rs, post.map id = rs.map dP ∧ qs = ps ++ (i, j) :: rs := by
                have hlen := congrArg List.length e
                have hq1 : qs.take ps.length = ps := by
                  have := congrArg (List.take ps.length) e
                  rw [List.take_append_of_le_length (by simp), List.take_of_length_le (by simp), ← List.map_take] at this
                  exact (map_dP_inj this).symm
                have hq2 : qs.drop ps.length = (i, j) :: qs.drop (ps.length + 1) := by
                  have := congrArg (List.drop ps.length) e
                  rw [List.drop_append_of_le_length (by simp), List.drop_of_length_le (by simp), List.nil_append, ← List.map_drop] at this
                  have hl2 : ps.length < qs.length := by
                    have := congrArg List.length e
                    simp at this; omega
                  rw [List.drop_eq_getElem_cons hl2] at this ⊢
                  rw [List.map_cons] at this
                  injection this with h7 h8
                  have h9 : dP (i, j) = dP qs[ps.length] := h7
                  rw [dP_inj1 h9]
                refine ⟨qs.drop (ps.length + 1), ?_, ?_⟩
                · have := congrArg (List.drop (ps.length + 1)) e
                  rw [List.map_id, List.map_drop, ← this, List.drop_append, List.drop_of_length_le (by simp)]
                  simp
                · conv => lhs; rw [← List.take_append_drop ps.length qs, hq1, hq2]
              obtain ⟨rs, _, h6⟩ := h5
              rw [h6]
              congr 2
              rw [List.drop_append, List.drop_of_length_le (by omega)]
              simp
            have hcq : consB qs = false := by
              cases h7 : consB qs
              · rfl
              · rw [e2, show ps ++ (i, j) :: qs.drop (ps.length + 1) = (ps ++ [(i, j)]) ++ qs.drop (ps.length + 1) by simp] at h7
                rw [consB_pre h7] at hcf; cases hcf
            simp [hcq]
        rw [this] at hP
        exact hP
      rw [hll] at hlt
      walk_at "run"
      exact hfin
    · rw [hll] at hlt
      walk_at "run"
      have hlp : lastP (ps ++ [(i, j)]) = (i, j) := by simp [lastP]
      refine hR [_, _] ⟨ps ++ [(i, j)], some (.tuple [.int i, .int j]), by rw [List.map_append]; rfl, hok2, ?_, ?_⟩
      · rw [consB_snoc, hcb, hll]; simp
      · rw [hlp]; rfl
  · rintro _ ⟨ps, y, rfl, hok, hcb, rfl⟩
    rw [tiesB_dP hok, hcb] at hP
    walk_at "run"
    exact hP
end Lib
end G7
set_option maxRecDepth 100000
namespace G7
open PySem
namespace Lib
end Lib
end G7

set_option maxRecDepth 100000
namespace G7
open PySem
namespace Lib
end Lib
end G7

set_option maxRecDepth 100000
namespace G7
open PySem
namespace Lib
end Lib
end G7

set_option maxRecDepth 100000
namespace G7
open PySem
namespace Lib
noncomputable def al (w : Web) (j : Nat) : Int := (-1) ^ (w.n.toNat + j) * cf (hueRow w) j
def Ind (w : Web) (S : List Int) : Prop := S.Nodup ∧ (∀ x ∈ S, 0 ≤ x ∧ x < w.n) ∧ ∀ x ∈ S, ∀ y ∈ S, Reach w x y → x = y
theorem drawn_lift {w : Web} {a b : Int} (hab : a < b) (hm : (a, b) ∈ w.ts) {x y : Int} (r : Reach (drawnW w a b) x y) : ∀ u, dpl u a b = x → ∃ v, Reach w u v ∧ dpl v a b = y := by
  induction r with
  | refl => exact fun u e => ⟨u, .refl, e⟩
  | step r t ih =>
    intro u e
    obtain ⟨v, rv, ev⟩ := ih u e
    obtain ⟨p, q, t1, e1, e2, _⟩ := T_drawn.mp t
    have rp : Reach w v p := by
      rcases dpl_eq hab (ev.trans e1.symm) with c | ⟨c, d⟩ | ⟨c, d⟩
      · rw [c]; exact .refl
      · rw [c, d]; exact .step .refl (.inl hm)
      · rw [c, d]; exact .step .refl (.inr hm)
    exact ⟨q, (rv.trans rp).step t1, e2⟩
theorem same_draw {w : Web} {a b : Int} (hab : a < b) (hm : (a, b) ∈ w.ts) {u v : Int} (e : dpl u a b = dpl v a b) : Reach w u v := by
  rcases dpl_eq hab e with c | ⟨c, d⟩ | ⟨c, d⟩
  · rw [c]; exact .refl
  · rw [c, d]; exact .step .refl (.inl hm)
  · rw [c, d]; exact .step .refl (.inr hm)
theorem Ind.draw {w : Web} {S : List Int} (i : Ind w S) {a b : Int} (a0 : 0 ≤ a) (hab : a < b) (hb : b < w.n) (hm : (a, b) ∈ w.ts) : Ind (drawnW w a b) (S.map fun x => dpl x a b) := by
  obtain ⟨nd, rg, un⟩ := i
  refine ⟨?_, ?_, ?_⟩
  · unfold List.Nodup
    rw [List.pairwise_map]
    exact (List.nodup_iff_pairwise_ne.mp nd).imp_of_mem fun {s t} hs ht hne e => hne (un s hs t ht (same_draw hab hm e))
  · intro x hx
    obtain ⟨s, hs, rfl⟩ := List.mem_map.mp hx
    have := rg s hs
    exact dpl_rg a0 hab hb this.1 this.2
  · intro x hx y hy r
    obtain ⟨s, hs, rfl⟩ := List.mem_map.mp hx
    obtain ⟨t, ht, rfl⟩ := List.mem_map.mp hy
    obtain ⟨v, rv, ev⟩ := drawn_lift hab hm r s rfl
    rw [un s hs t ht (rv.trans (same_draw hab hm ev))]
theorem Ind.cut {w : Web} (o : w.ok) {S : List Int} (i : Ind w S) {a b : Int} (hab : a < b) : Ind (cutF w (a, b)) S := by
  refine ⟨i.1, i.2.1, fun x hx y hy r => i.2.2 x hx y hy ?_⟩
  clear hx hy
  induction r with
  | refl => exact .refl
  | step r t ih => exact ih.step ((T_cut (wf_of o) hab).mp t).1
end Lib
end G7

set_option maxRecDepth 100000
namespace G7
open PySem
namespace Lib
section
variable {w : Web} {a b : Int}
theorem web_eq {w v : Web} (h1 : w.n = v.n) (h2 : w.ts = v.ts) : w = v := by
  cases w; cases v; cases h1; cases h2; rfl
theorem ok_same {w v : Web} (o : w.ok) (ov : v.ok) (hn : w.n = v.n) (h : ∀ t, t ∈ w.ts ↔ t ∈ v.ts) : w = v := by
  refine web_eq hn (psort_one ((List.perm_ext_iff_of_nodup (ok_nd o) (ok_nd ov)).mpr h) (o.srt.imp fun h => ?_) (ov.srt.imp fun h => ?_)) <;> · unfold leP; unfold lexP at h; omega
end
end Lib
end G7

namespace G7
open PySem

local macro_rules | `(tactic| walk_at "op") => `(tactic| first
  | with_reducible exact addD_i _ _ | with_reducible exact subD_i _ _ | with_reducible exact ltD_i _ _ | with_reducible exact leD_i _ _ | with_reducible exact gtD_i _ _ | with_reducible exact geD_i _ _
  | with_reducible exact eqD_i _ _ | with_reducible exact neD_i _ _ | with_reducible exact lenD_lm | with_reducible exact lenD_tm | with_reducible exact lenD_l _ | with_reducible exact lenD_t _ | with_reducible exact dP_0 _ | with_reducible exact dP_1 _
  | with_reducible exact ixD_t0 _ _ | with_reducible exact ixD_t1 _ _ _ | with_reducible exact ixD_t2 _ _ _ _ | with_reducible exact ixD_l0 _ _ | with_reducible exact ixD_l0m | with_reducible exact ixD_t0m | exact eqD_sT | exact eqD_sF | exact neD_sT | exact neD_sF | with_reducible exact ixD_l1 _ _ _
  | with_reducible exact Lib.dW_0 _ | with_reducible exact Lib.dW_1 _ | with_reducible exact tupD_l _ | with_reducible exact tupD_t _ | with_reducible exact lstD_l _ | with_reducible exact lstD_t _ | with_reducible exact max2D_i _ _ | with_reducible exact min2D_i _ _
  | with_reducible exact isTD_i | with_reducible exact revT_m | with_reducible exact slL_m1 | with_reducible exact tupRevD_m | ((with_reducible refine' indexD_li ?_); with_reducible assumption) | ((with_reducible refine' indexD_xi ?_); with_reducible assumption) | ((with_reducible refine' Lib.indexD_Xi ?_); with_reducible assumption) | with_reducible exact isTD_s _ _ | with_reducible exact powD_6 | with_reducible exact powD_16 | with_reducible exact powD_18 | with_reducible exact isTD_t _ _ | with_reducible exact isTD_l _ _ | with_reducible exact isTD_b _ _ | with_reducible exact isTD_n _ | with_reducible exact isD_bb _ _ | with_reducible exact isNotD_bb _ _ | with_reducible exact isD_n' () | with_reducible exact isD_lN _ | with_reducible exact isD_tN _ | with_reducible exact isNotD_lN _ | with_reducible exact isNotD_tN _ | with_reducible exact intD_b _ | with_reducible exact intD_i _ | with_reducible exact negD_i _ | with_reducible exact eqD_b _ _ | with_reducible exact neD_b _ _
  | with_reducible exact neD_l0 _ | with_reducible exact eqD_l0 _ | with_reducible exact eqD_li _ _ | with_reducible exact neD_li _ _ | with_reducible exact eqD_ti _ _ | with_reducible exact neD_ti _ _
  | with_reducible exact eqD_lp _ _ | with_reducible exact neD_lp _ _ | with_reducible exact eqD_tp _ _ | with_reducible exact neD_tp _ _
  | with_reducible exact inD_li _ _ | with_reducible exact inD_ti _ _ | with_reducible exact notInD_li _ _ | with_reducible exact notInD_ti _ _ | with_reducible exact inD_lp _ _ | with_reducible exact inD_tp _ _
  | with_reducible exact notInD_lp _ _ | with_reducible exact notInD_tp _ _ | with_reducible exact inD_lp' _ _ _ | with_reducible exact inD_tp' _ _ _ | with_reducible exact notInD_lp' _ _ _ | with_reducible exact notInD_tp' _ _ _
  | with_reducible exact inD_pair _ _ _ | with_reducible exact sortedAD_i _ | with_reducible exact sortedAD_p _ | with_reducible exact allD_b _ | with_reducible exact anyD_b _
  | ((with_reducible refine' addD_1m ?_); omega) | with_reducible exact Lib.maxAD_0 _ | with_reducible exact Lib.din_dI _ _ | with_reducible exact Lib.dinTD_p _ _ | with_reducible exact Lib.dninTD_p _ _ | with_reducible exact Lib.lenTD_p _ | with_reducible exact Lib.sortTLD_p _ | with_reducible exact Lib.dnin_dI _ _ | ((with_reducible apply Lib.dget_dI); with_reducible assumption) | ((with_reducible refine' repLD_0 ?_ ?_) <;> omega) | ((with_reducible refine' slT_tom ?_); omega) | ((with_reducible refine' slT_frm ?_); omega) | ((with_reducible refine' slL_tom ?_); omega) | ((with_reducible refine' slL_frm ?_); omega) | ((with_reducible refine' modD_i ?_); omega) | ((with_reducible refine' fdivD_i ?_ ?_) <;> omega) | ((with_reducible refine' mulID_i (okMul_l ?_ ?_)) <;> omega) | ((with_reducible refine' mulID_i (okMul_r ?_ ?_)) <;> omega)
  | ((with_reducible refine' ixD_lm ?_ ?_) <;> omega) | ((with_reducible refine' ixD_tm ?_ ?_) <;> omega) | with_reducible assumption)
local macro_rules | `(tactic| walk_at "env") => `(tactic| simp only [List.set_cons_zero, List.set_cons_succ, upd, wp_cons, wp_nil, back_cons, back_nil, List.getElem?_cons_zero, List.getElem?_cons_succ, Option.getD_some, toF])
local macro_rules | `(tactic| walk_at "cond") => `(tactic| first | assumption | omega | exact rfl | (focus (simp; done)))
local macro_rules | `(tactic| walk_at "mut") => `(tactic| first | ((with_reducible refine' popAtF_m ?_ ?_) <;> omega) | ((with_reducible refine' appendF_m ?_); first | omega | (simp only [List.length_append, List.length_map, List.length_cons, List.length_nil]; omega)) | ((with_reducible refine' removeF_i ?_); (first | assumption | (simp; done))) | ((with_reducible refine' extendF_m ?_); first | omega | (simp only [List.length_append, List.length_map, List.length_cons, List.length_nil]; omega)))
local macro_rules | `(tactic| walk_at "s") => `(tactic| first
  | with_reducible refine' i_seq ?_ | ((with_reducible apply i_frz); (exact rfl); (first | exact nt_l | exact nt_d)) | ((with_reducible apply i_asV); (exact rfl)) | ((with_reducible apply i_asO); (exact rfl); (first | exact nt_l | exact nt_d)) | with_reducible refine' i_op2 ?_ | with_reducible refine' i_acons ?_ | with_reducible refine' i_anil ?_ | ((with_reducible apply i_var); exact rfl) | with_reducible refine' i_c ?_
  | with_reducible refine' i_asg ?_ | with_reducible refine' i_par ?_ | with_reducible refine' i_par2 ?_ | with_reducible refine' i_call ?_ | with_reducible refine' i_blt ?_ | with_reducible refine' i_op1 ?_ | with_reducible refine' i_tup ?_ | with_reducible refine' i_list ?_
  | ((with_reducible apply i_ex); walk_at "op") | ((with_reducible apply i_exk); walk_at "op")
  | with_reducible refine' i_val ?_ | with_reducible refine' i_exb ?_ | with_reducible refine' i_if ?_ | with_reducible refine' i_ret ?_ | with_reducible refine' i_nil ?_
  | with_reducible refine' i_T ?_ | with_reducible refine' i_F ?_ | with_reducible refine' i_tand ?_ | with_reducible refine' i_tor ?_ | with_reducible refine' i_tnot ?_ | with_reducible refine' i_yes ?_
  | with_reducible refine' i_and ?_ | with_reducible refine' i_or ?_ | with_reducible refine' i_not ?_ | with_reducible refine' i_ife ?_ | with_reducible refine' i_chain ?_
  | with_reducible refine' i_comp ?_ | with_reducible refine' i_iseq ?_ | with_reducible refine' i_irg1 ?_ | with_reducible refine' i_irg2 ?_ | with_reducible refine' i_izip ?_ | with_reducible refine' i_lstZ ?_ | with_reducible refine' i_lzT ?_ | with_reducible refine' i_lzL ?_ | with_reducible refine' i_disp1 ?_ | with_reducible refine' i_keyI ?_ | with_reducible refine' i_zipT ?_ | with_reducible refine' i_zipL ?_ | with_reducible refine' i_ienum ?_ | ((with_reducible apply i_enum); exact rfl) | with_reducible refine' i_irev ?_
  | with_reducible refine' i_for ?_ | with_reducible refine' i_lstrg ?_ | with_reducible refine' i_asgG ?_ | with_reducible refine' i_asgP ?_ | with_reducible refine' i_expr ?_ | with_reducible refine' i_retN ?_ | with_reducible refine' i_brk ?_ | with_reducible refine' i_cnt ?_
  | with_reducible refine' i_on ?_ | with_reducible refine' i_os ?_ | with_reducible refine' i_sl ?_ | ((with_reducible apply i_exl); exact rfl)
  | ((with_reducible refine' i_rg1 ?_ ?_); (constructor <;> omega)) | ((with_reducible refine' i_rg2 ?_ ?_); (refine ⟨?_, ?_, ?_, ?_⟩ <;> omega))
  | with_reducible refine' i_exi ?_
  | (with_reducible refine' i_len (Nat.le_of_ble_eq_true rfl) ?_)
  | ((with_reducible apply i_g); exact rfl) | ((with_reducible refine' i_plix ?_ ?_); exact rfl) | with_reducible refine' i_plset ?_ | with_reducible refine' i_np ?_
  | with_reducible refine' Lib.i_xt ?_ | with_reducible refine' Lib.i_idxX ?_ | with_reducible refine' i_idxL ?_ | with_reducible refine' i_idl ?_ | with_reducible refine' i_idx ?_
  | ((with_reducible apply i_mut1); (exact rfl); walk_at "mut")
  | ((with_reducible apply Lib.i_keysT); exact rfl) | (with_reducible refine' Lib.i_dputT ?_) | ((with_reducible apply Lib.i_dputT0); exact rfl) | ((with_reducible apply Lib.i_dputT1); (exact rfl); omega)
  | (with_reducible refine' Lib.i_dput ?_) | ((with_reducible apply Lib.i_dput0); exact rfl) | ((with_reducible apply Lib.i_dput1); (exact rfl); omega)
  | ((with_reducible refine' i_dT ?_ ?_); walk_at "cond") | ((with_reducible refine' i_dF ?_ ?_); walk_at "cond") | ((with_reducible refine' i_ndT ?_ ?_); walk_at "cond") | ((with_reducible refine' i_ndF ?_ ?_); walk_at "cond")
  | ((with_reducible refine' i_bT ?_ ?_); (first | with_reducible assumption | exact rfl)) | ((with_reducible refine' i_bF ?_ ?_); (first | with_reducible assumption | exact rfl))
  | ((with_reducible apply i_setixm); (exact rfl); omega; omega) | (with_reducible refine' i_setix ?_) | ((with_reducible apply i_setix0); exact rfl) | ((with_reducible apply i_mut); exact rfl))
local macro_rules | `(tactic| walk_at "run") => `(tactic| (repeat (walk_at "s")); try walk_at "env")
local macro_rules | `(tactic| walk_at "start") => `(tactic| simp only [startE, List.map_cons, List.map_nil, List.length_cons, List.length_nil, Nat.reduceAdd, Nat.reduceSub, Nat.zero_add, List.replicate_succ, List.replicate_zero, List.cons_append, List.nil_append])
local macro_rules | `(tactic| walk_at "len") => `(tactic| first | omega | (simp only [List.length_map, List.length_append, List.length_cons, List.length_nil]; omega) | (refine Nat.le_trans ?_ (Nat.le_refl _); have := List.length_filter_le; simp_all; done))
local macro_rules | `(tactic| walk_at "opl") => `(tactic| first | ((with_reducible refine' addD_lm ?_); walk_at "len") | ((with_reducible refine' addD_tm ?_); walk_at "len") | ((with_reducible refine' addLD_lm ?_); walk_at "len"))
/-- a comprehension: of what is walked itself, of ints, pairs, truths -/
local macro_rules | `(tactic| walk_at "comp") => `(tactic| first
  | (refine comp_fil ?_ (fun x hx => ?_) ?_; rotate_left 1; focus ((try have hx1 := Fact.use (by assumption) hx); (try have hx2 := mem_ints.mp hx); (try dsimp only at hx1); refine ⟨_, rfl, fun R hR => ?_, fun hp R hR => ?_, rfl⟩ <;> (repeat (walk_at "s")) <;> exact hR))
  | (refine comp_all (en2 := PySem.PyData.int) ?_ (fun x hx => ?_) ?_; rotate_left 1; focus ((try have hx1 := Fact.use (by assumption) hx); (try have hx2 := mem_ints.mp hx); (try dsimp only at hx1); refine ⟨_, rfl, fun R hR => ?_, rfl⟩ <;> (repeat (walk_at "s")) <;> exact hR))
  | (refine comp_all (en2 := PySem.PyData.bool) ?_ (fun x hx => ?_) ?_; rotate_left 1; focus ((try have hx1 := Fact.use (by assumption) hx); (try have hx2 := mem_ints.mp hx); (try dsimp only at hx1); refine ⟨_, rfl, fun R hR => ?_, rfl⟩ <;> (repeat (walk_at "s")) <;> exact hR))
  | (refine comp_all (en2 := dP) ?_ (fun x hx => ?_) ?_; rotate_left 1; focus ((try have hx1 := Fact.use (by assumption) hx); (try have hx2 := mem_ints.mp hx); (try dsimp only at hx1); refine ⟨_, rfl, fun R hR => ?_, rfl⟩ <;> (repeat (walk_at "s")) <;> exact hR))
  | (refine comp_el (en2 := PySem.PyData.int) ?_ ?_ (fun x hx => ?_) ?_; rotate_left 2; focus ((try have hx1 := Fact.use (by assumption) hx); (try have hx2 := mem_ints.mp hx); (try dsimp only at hx1); refine ⟨_, rfl, fun R hR => ?_, fun hp R hR => ?_, rfl⟩ <;> (repeat (walk_at "s")) <;> exact hR))
  | (refine comp_el (en2 := dP) ?_ ?_ (fun x hx => ?_) ?_; rotate_left 2; focus ((try have hx1 := Fact.use (by assumption) hx); (try have hx2 := mem_ints.mp hx); (try dsimp only at hx1); refine ⟨_, rfl, fun R hR => ?_, fun hp R hR => ?_, rfl⟩ <;> (repeat (walk_at "s")) <;> exact hR))
  | (refine comp_el (en2 := PySem.PyData.bool) ?_ ?_ (fun x hx => ?_) ?_; rotate_left 2; focus ((try have hx1 := Fact.use (by assumption) hx); (try have hx2 := mem_ints.mp hx); (try dsimp only at hx1); refine ⟨_, rfl, fun R hR => ?_, fun hp R hR => ?_, rfl⟩ <;> (repeat (walk_at "s")) <;> exact hR))
  | (refine comp_allD (en2 := PySem.PyData.int) ?_ (fun x hx => ?_) ?_; rotate_left 1; focus ((try have hx1 := Fact.use (by assumption) hx); (try dsimp only at hx1); refine ⟨_, rfl, fun R hR => ?_, rfl⟩ <;> (repeat (walk_at "s")) <;> exact hR))
  | (refine comp_allD (en2 := PySem.PyData.bool) ?_ (fun x hx => ?_) ?_; rotate_left 1; focus ((try have hx1 := Fact.use (by assumption) hx); (try dsimp only at hx1); refine ⟨_, rfl, fun R hR => ?_, rfl⟩ <;> (repeat (walk_at "s")) <;> exact hR)))
local macro_rules | `(tactic| walk_at "runc") => `(tactic| (repeat (first | walk_at "s" | walk_at "comp")); try walk_at "env")
/-- as run, but stops ahead of an if -/
local macro_rules | `(tactic| walk_at "runI") => `(tactic| (repeat ((fail_if_success (with_reducible refine' i_if ?_)); walk_at "s")); try walk_at "env")
namespace K04
open PySem Lib
def S_l_pool : FS := Lib.S_l_dig
theorem m_l_pool : ∀ ds Post, S_l_pool ds Post → wb_l_pool { nx := fun _ => Post .none ∧ RK.nw = .fz, rt := fun d _ => Post d } (startE 1 ds) := Lib.m_l_dig
def S_l_next : FS := Lib.S_l_next
theorem m_l_next : ∀ ds Post, S_l_next ds Post → wb_l_next { nx := fun _ => Post .none ∧ RK.fz = .fz, rt := fun d _ => Post d } (startE 5 ds) := Lib.m_l_next
def S_l_web : FS := Lib.S_l_web
theorem m_l_web : ∀ ds Post, S_l_web ds Post → wb_l_web S_l_next { nx := fun _ => Post .none ∧ RK.fz = .fz, rt := fun d _ => Post d } (startE 13 ds) := Lib.m_l_web
def S_tie_of : FS := Lib.S_l_pair
theorem m_tie_of : ∀ ds Post, S_tie_of ds Post → wb_tie_of { nx := fun _ => Post .none ∧ RK.fz = .fz, rt := fun d _ => Post d } (startE 2 ds) := Lib.m_l_pair
def S_drawn_place : FS := Lib.S_drawn_place
theorem m_drawn_place : ∀ ds Post, S_drawn_place ds Post → wb_drawn_place { nx := fun _ => Post .none ∧ RK.fz = .fz, rt := fun d _ => Post d } (startE 3 ds) := Lib.m_drawn_place
def S_drawn : FS := Lib.S_drawn
theorem m_drawn : ∀ ds Post, S_drawn ds Post → wb_drawn S_tie_of S_drawn_place { nx := fun _ => Post .none ∧ RK.fz = .fz, rt := fun d _ => Post d } (startE 7 ds) := Lib.m_drawn
def S_is_tied : FS := Lib.S_is_tiedI
theorem m_is_tied : ∀ ds Post, S_is_tied ds Post → wb_is_tied S_tie_of { nx := fun _ => Post .none ∧ RK.fz = .fz, rt := fun d _ => Post d } (startE 3 ds) := Lib.m_is_tiedI
def S_with_tie : FS := Lib.S_with_tieP
theorem m_with_tie : ∀ ds Post, S_with_tie ds Post → wb_with_tie S_tie_of { nx := fun _ => Post .none ∧ RK.fz = .fz, rt := fun d _ => Post d } (startE 3 ds) := Lib.m_with_tieP
def S_l_sound : FS := Lib.S_l_sound
theorem m_l_sound : ∀ ds Post, S_l_sound ds Post → wb_l_sound { nx := fun _ => Post .none ∧ RK.fz = .fz, rt := fun d _ => Post d } (startE 1 ds) := Lib.m_l_sound
def S_l_is_web : FS := Lib.S_l_is_webA
theorem m_l_is_web : ∀ ds Post, S_l_is_web ds Post → wb_l_is_web S_l_sound { nx := fun _ => Post .none ∧ RK.fz = .fz, rt := fun d _ => Post d } (startE 3 ds) := Lib.m_l_is_webA
def S_l_number : FS := Lib.S_drawn_place
theorem m_l_number : ∀ ds Post, S_l_number ds Post → wb_l_number { nx := fun _ => Post .none ∧ RK.fz = .fz, rt := fun d _ => Post d } (startE 3 ds) := Lib.m_drawn_place
local macro_rules | `(tactic| walk_at "s") => `(tactic| first | with_reducible refine' i_exc ?_ | ((with_reducible apply i_isEx); (exact rfl); (exact rfl)))
theorem i_asgX {i : Nat} {w : WE} {W : WD} {e1 : En} (k : w e1 fun d e2 => (∀ cn, d = exD cn → W.rt d e2) ∧ ((∀ cn, d ≠ exD cn) → W.nx (e2.set i (some d)))) : wAsgX i w W e1 := k
abbrev LB (l : List Bool) : D := .list (l.map .bool)
theorem lay_LB (l : List Bool) : lay 1 (LB l) := lay_lst (lay_map (f := PyData.bool) (fun b => lay_bool b) l)
theorem eqv_db (a b : Bool) : PyData.eqv (.bool a) (.bool b) = decide (a = b) := by rw [eqv_bb]; cases a <;> cases b <;> rfl
theorem eqD_LB (a b : List Bool) : eqD (LB a) (LB b) = some (.bool (decide (a = b))) := by rw [eqD_lay (lay_LB a) (lay_LB b), eqv_lst eqv_db]
theorem neD_LB (a b : List Bool) : neD (LB a) (LB b) = some (.bool (!decide (a = b))) := by rw [neD_lay (lay_LB a) (lay_LB b), eqv_lst eqv_db]
theorem neD_dP (u v : Int × Int) : neD (dP u) (dP v) = some (.bool (!decide (u = v))) := by rw [neD_lay (lay_dP u) (lay_dP v), eqv_dP]
def exNames : List Str := ["RillError", "TooMany", "There", "NoTie", "NoSpring", "NoMouth", "Apart", "SamePlace", "NoText", "NoRow", "NoPlace", "NoFall", "NoPast"]
def kindNames : List Str := ["TooMany", "There", "NoTie", "NoSpring", "NoMouth", "Apart", "SamePlace", "NoText", "NoRow", "NoPlace", "NoFall", "NoPast"]
def kindsL (cn : Str) : List Bool := (kindNames.map fun x => cn == x) ++ [true, true]
def S_l_kinds : FS := fun ds Post => ∃ cn, ds = [exV cn] ∧ cn ∈ exNames ∧ Post (LB (kindsL cn))
theorem kinds_at {P : D → Prop} {cn : Str} {l : List Bool} (h : kindsL cn = l) (hP : P (LB (kindsL cn))) : P (LB l) := h ▸ hP
set_option maxHeartbeats 8000000 in
theorem m_l_kinds : ∀ ds Post, S_l_kinds ds Post → wb_l_kinds { nx := fun _ => Post .none ∧ RK.fz = .fz, rt := fun d _ => Post d } (startE 2 ds) := by
  rintro ds Post ⟨cn, rfl, hc, hP⟩
  unfold wb_l_kinds
  walk_at "start"
  simp only [exNames, List.mem_cons, List.not_mem_nil, or_false] at hc
  rcases hc with rfl | rfl | rfl | rfl | rfl | rfl | rfl | rfl | rfl | rfl | rfl | rfl | rfl
  all_goals
    walk_at "run"
    refine ⟨_, rfl, ?_⟩
    walk_at "run"
    refine ⟨_, rfl, ?_⟩
    walk_at "run"
    refine ⟨_, rfl, ?_⟩
    walk_at "run"
    exact hP
def S_l_apart : FS := fun ds Post => ds = [] ∧ Post (.bool true)
set_option maxHeartbeats 8000000 in
theorem m_l_apart : ∀ ds Post, S_l_apart ds Post → wb_l_apart S_l_kinds { nx := fun _ => Post .none ∧ RK.fz = .fz, rt := fun d _ => Post d } (startE 3 ds) := by
  rintro ds Post ⟨rfl, hP⟩
  have hall : ∀ k ∈ irng 0 12, kindNames[k.toNat]! ∈ exNames ∧ kindsL (kindNames[k.toNat]!) = (irng 0 12).map (fun x => decide (x = k)) ++ [true, true] := by decide +kernel
  unfold wb_l_apart
  walk_at "start"
  walk_at "run"
  refine ⟨.list (kindNames.map fun cn => exV cn), rfl, ?_⟩
  walk_at "run"
  refine for_st (enc := .int) [1] (fun _ vs => ∃ a, vs = [a]) [_] rfl ⟨_, rfl⟩ ?_ ?_
  · rintro pre k post _ hL ⟨a, rfl⟩ R hR
    have hm : k ∈ irng 0 12 := by rw [hL]; simp
    have hk := mem_ints.mp hm
    obtain ⟨h1, h2⟩ := hall k hm
    clear hL
    have hR := hR [_] ⟨some (.int k), rfl⟩
    have hl : (kindNames.length : Int) = 12 := rfl
    have j : ixD (.list (kindNames.map fun cn => exV cn)) (.int k) = some (exV (kindNames[k.toNat]!)) := ixD_lm (f := fun cn => exV cn) (by omega) (by omega)
    walk_at "run"
    refine ⟨_, rfl, h1, ?_⟩
    rw [h2]
    walk_at "run"
    refine comp_all (en2 := PyData.bool) (fun x => decide (x = k)) (fun x hx => ⟨_, rfl, fun R hR => ?_, rfl⟩) ?_
    · walk_at "run"
      exact hR
    walk_at "run"
    refine ⟨_, addD_lm (f := PyData.bool) (b := [true, true]) (by rw [List.length_map, ints_len]; decide), ?_⟩
    refine ⟨_, neD_LB _ _, ?_⟩
    rw [decide_eq_true rfl]
    walk_at "run"
    exact hR
  · rintro _ ⟨a, rfl⟩
    walk_at "run"
    refine ⟨_, rfl, by decide +kernel, ?_⟩
    walk_at "run"
    refine ⟨_, rfl, ?_⟩
    walk_at "run"
    refine ⟨LB (List.replicate 12 false ++ [true, true]), rfl, ?_⟩
    refine ⟨_, eqD_LB _ _, ?_⟩
    rw [decide_eq_true (by decide +kernel)]
    exact hP
def KB (cn : Str) : D := LB (kindsL cn)
def dueF (way : Int) (w : Web) (t : Int × Int) : D := if way = 1 then (if t ∈ w.ts then dW (cutF w t) else KB "NoTie") else if t ∈ w.ts then KB "There" else if w.ts.length = 20 then KB "TooMany" else dW (withW w t)
theorem nx_dPn (l : List (Int × Int)) : ∀ t ∈ l.map dP, nx t := fun t ht => by
  obtain ⟨p, _, rfl⟩ := List.mem_map.mp ht
  exact ⟨fun xs e => (by cases e), fun xs e => (by cases e)⟩
theorem goodW_dW {w : Web} (h : w.ts.length ≤ 1000) : goodW (dW w) := by
  refine ⟨?_, fun a b e => ?_⟩
  · exact ⟨fun xs e => (by cases e), fun xs e => (by cases e)⟩
  · cases e
    refine ⟨?_, ?_, fun ts e => ?_⟩
    · exact ⟨fun xs e => (by cases e), fun xs e => (by cases e)⟩
    · exact ⟨fun xs e => (by cases e), fun xs e => (by cases e)⟩
    · cases e
      exact ⟨by rw [List.length_map]; exact h, nx_dPn _⟩
theorem webB_web {w : Web} (o : w.ok) : webB (dW w) = true := by
  have h1 : w.ts.all (okP w.n) = true := List.all_eq_true.mpr fun t ht => by
    have := o.rg t ht
    simp [okP, this]
  have h2 : ∀ l : List (Int × Int), l.Pairwise lexP → consB l = true := fun l => by
    induction l with
    | nil => intro _; rfl
    | cons a l ih =>
      intro h
      cases l with
      | nil => rfl
      | cons b r =>
        have h3 := List.pairwise_cons.mp h
        show (ltP a b && consB (b :: r)) = true
        rw [ih h3.2, Bool.and_true]
        have h4 := h3.1 b (by simp)
        unfold lexP at h4
        unfold ltP
        simp only [HT.lexLt]
        by_cases c : a.1 = b.1
        · rw [if_pos c, if_neg (by omega)]; exact decide_eq_true (by omega)
        · rw [if_neg c]; exact decide_eq_true (by omega)
  show (decide (1 ≤ w.n) && decide (w.n ≤ 9) && decide ((w.ts.map dP).length ≤ 20) && tiesB w.n (w.ts.map dP)) = true
  rw [tiesB_dP h1, h2 _ o.srt, List.length_map]
  simp [o.n1, o.n9, o.len]
theorem neD_dW (w : Web) : neD (dW w) (dW w) = some (.bool false) := by
  have h : lay 3 (dW w) := lay_tup fun d hd => by
    simp only [List.mem_cons, List.not_mem_nil, or_false] at hd
    rcases hd with rfl | rfl
    · exact lay_int _
    · exact lay_tup (lay_map lay_dP w.ts)
  unfold neD
  rw [if_pos ⟨lay_ok h, lay_ok h⟩, eqv_refl h]; rfl
theorem pr_sw (a b : Int) : pr b a = pr a b := by
  unfold pr
  by_cases c : a < b
  · rw [if_pos c, if_neg (by omega), if_neg (by omega), if_pos c]
  · by_cases d : b < a
    · rw [if_neg c, if_pos d, if_pos d, if_neg (by omega)]
    · have : a = b := by omega
      rw [this]
theorem lay_dW (w : Web) : lay 3 (dW w) := lay_tup fun d hd => by
  simp only [List.mem_cons, List.not_mem_nil, or_false] at hd
  rcases hd with rfl | rfl
  · exact lay_int _
  · exact lay_tup (lay_map lay_dP w.ts)
theorem due_cases {w : Web} (o : w.ok) {t : Int × Int} (ht : 0 ≤ t.1 ∧ t.1 < t.2 ∧ t.2 < w.n) (way : Int) : (∃ v : Web, v.ok ∧ dueF way w t = dW v) ∨ ∃ l, dueF way w t = LB l := by
  have h20 := o.len
  unfold dueF
  split
  · split
    · exact .inl ⟨_, cut_ok o t, rfl⟩
    · exact .inr ⟨_, rfl⟩
  · split
    · exact .inr ⟨_, rfl⟩
    · split
      · exact .inr ⟨_, rfl⟩
      · exact .inl ⟨_, withW_ok o ht ‹_› (by omega), rfl⟩
theorem neD_due (way : Int) (w : Web) (t : Int × Int) : neD (dueF way w t) (dueF way w t) = some (.bool false) := by
  have hb : ∀ l, neD (KB l) (KB l) = some (.bool false) := fun l => by
    show neD (LB _) (LB _) = _
    rw [neD_LB]; simp
  unfold dueF
  split
  · split
    · exact neD_dW _
    · exact hb _
  · split
    · exact hb _
    · split
      · exact hb _
      · exact neD_dW _
def S_l_due : FS := fun ds Post => ∃ way w a b, ds = [.int way, dW w, .int a, .int b] ∧ w.ok ∧ (way = 0 ∨ way = 1) ∧ (0 ≤ a ∧ a < w.n) ∧ (0 ≤ b ∧ b < w.n) ∧ a ≠ b ∧ Post (dueF way w (pr a b))
theorem put_with {w : Web} (o : w.ok) {t : Int × Int} (hn : t ∉ w.ts) (ow : (withW w t).ok) : w.ts.take (w.ts.filter fun u => HT.lexLt [u.1, u.2] [t.1, t.2]).length ++ [t] ++ w.ts.drop (w.ts.filter fun u => HT.lexLt [u.1, u.2] [t.1, t.2]).length = (withW w t).ts := by
  obtain ⟨h1, h2⟩ := withW_cut o (t := t)
  have hs := ow.srt
  generalize hk : (withW w t).ts.idxOf t = k at *
  have e : w.ts.filter (fun u => HT.lexLt [u.1, u.2] [t.1, t.2]) = w.ts.take k := by
    conv => lhs; rw [← List.take_append_drop k w.ts]
    rw [List.filter_append]
    rw [h2, List.pairwise_append, List.pairwise_cons] at hs
    have hlt : ∀ u : Int × Int, HT.lexLt [u.1, u.2] [t.1, t.2] = true ↔ lexP u t := fun u => by
      unfold lexP
      simp only [HT.lexLt]
      by_cases c : u.1 = t.1
      · rw [if_pos c]
        by_cases c2 : u.2 = t.2
        · rw [if_pos c2]; simp; omega
        · rw [if_neg c2]; simp; omega
      · rw [if_neg c]; simp; omega
    rw [List.filter_eq_self.mpr (fun u hu => (hlt u).mpr (hs.2.2 u hu t (by simp))), List.filter_eq_nil_iff.mpr (fun u hu c => ?_), List.append_nil]
    have h3 := (hlt u).mp c
    have h4 := hs.2.1.1 u hu
    unfold lexP at h3 h4
    omega
  rw [e, List.length_take, Nat.min_eq_left h1, h2]
  simp
set_option maxHeartbeats 8000000 in
theorem m_l_due : ∀ ds Post, S_l_due ds Post → wb_l_due { nx := fun _ => Post .none ∧ RK.fz = .fz, rt := fun d _ => Post d } (startE 8 ds) := by
  rintro ds Post ⟨way, w, a, b, rfl, o, hw, ha, hb, ne, hP⟩
  have n1 := o.n1
  have n9 := o.n9
  have h20 := o.len
  have hpr := pr_rg ha hb ne
  have hk1 : kindsL "NoTie" = (List.replicate 12 false ++ [true, true]).set (Int.toNat 2) true := by decide +kernel
  have hk2 : kindsL "There" = (List.replicate 12 false ++ [true, true]).set (Int.toNat 1) true := by decide +kernel
  have hk3 : kindsL "TooMany" = (List.replicate 12 false ++ [true, true]).set (Int.toNat 0) true := by decide +kernel
  have hk : ∀ {cn l}, kindsL cn = l → KB cn = LB l := fun h => by unfold KB; rw [h]
  have hlen : ((List.replicate 12 false ++ [true, true] : List Bool).length : Int) = 14 := rfl
  unfold wb_l_due
  walk_at "start"
  walk_at "run"
  refine ⟨_, rfl, ?_⟩
  walk_at "run"
  refine ⟨LB (List.replicate 12 false ++ [true, true]), rfl, ?_⟩
  have hin : inD (dP (pr a b)) (TP w.ts) = some (.bool (decide (pr a b ∈ w.ts))) := inD_tp _ _
  have hp2 : dP (pr a b) = .tuple [.int (if b < a then b else a), .int (if b > a then b else a)] := rfl
  rw [← hp2]
  rcases hw with rfl | rfl
  · have hP : Post (if pr a b ∈ w.ts then KB "There" else if w.ts.length = 20 then KB "TooMany" else dW (withW w (pr a b))) := hP
    by_cases c : pr a b ∈ w.ts
    · rw [if_pos c, hk hk2] at hP
      walk_at "run"
      exact hP
    rw [if_neg c] at hP
    by_cases c2 : w.ts.length = 20
    · rw [if_pos c2, hk hk3] at hP
      walk_at "run"
      exact hP
    rw [if_neg c2] at hP
    have hput := put_with o c (withW_ok o hpr c (by omega))
    have hl1 : (w.ts.filter fun u => HT.lexLt [u.1, u.2] [(pr a b).1, (pr a b).2]).length ≤ w.ts.length := List.length_filter_le _ _
    walk_at "run"
    refine comp_fil (h := dP) (xs := w.ts) (fun u => HT.lexLt [u.1, u.2] [(pr a b).1, (pr a b).2]) (fun u hu => ⟨_, rfl, fun R hR => ?_, fun _ R hR => ?_, rfl⟩) ?_
    · walk_at "run"
      refine ⟨_, rfl, ?_⟩
      walk_at "run"
      exact hR
    · walk_at "run"
      exact hR
    generalize (w.ts.filter fun u => HT.lexLt [u.1, u.2] [(pr a b).1, (pr a b).2]) = F at *
    walk_at "run"
    rw [Int.toNat_natCast]
    refine ⟨_, addD_tm1 (f := dP) (by rw [List.length_take]; omega), ?_⟩
    walk_at "run"
    rw [Int.toNat_natCast]
    refine ⟨_, addD_tm (f := dP) (by rw [List.length_append, List.length_take, List.length_drop, List.length_singleton]; omega), ?_⟩
    rw [hput]
    walk_at "run"
    exact hP
  · have hP : Post (if pr a b ∈ w.ts then dW (cutF w (pr a b)) else KB "NoTie") := hP
    by_cases c : pr a b ∈ w.ts
    · rw [if_pos c] at hP
      walk_at "run"
      refine comp_fil (h := dP) (xs := w.ts) (fun u => !decide (u = pr a b)) (fun u hu => ⟨_, rfl, fun R hR => ?_, fun _ R hR => ?_, rfl⟩) ?_
      · walk_at "run"
        refine ⟨_, neD_dP u (pr a b), ?_⟩
        walk_at "run"
        exact hR
      · walk_at "run"
        exact hR
      walk_at "run"
      exact hP
    · rw [if_neg c, hk hk1] at hP
      walk_at "run"
      exact hP
def S_tied : FS := fun ds Post => ∃ w a b, ds = [dW w, .int a, .int b] ∧ w.ok ∧ (pr a b ∈ w.ts → Post (exD "There")) ∧ (pr a b ∉ w.ts → w.ts.length = 20 → Post (exD "TooMany")) ∧ (pr a b ∉ w.ts → w.ts.length < 20 → Post (dW (withW w (pr a b))))
theorem m_tied : ∀ ds Post, S_tied ds Post → wb_tied S_is_tied S_with_tie { nx := fun _ => Post .none ∧ RK.fz = .fz, rt := fun d _ => Post d } (startE 3 ds) := by
  rintro ds Post ⟨w, a, b, rfl, o, h1, h2, h3⟩
  have h20 := o.len
  unfold wb_tied
  walk_at "start"
  walk_at "run"
  refine ⟨w, a, b, rfl, ?_⟩
  by_cases c : pr a b ∈ w.ts
  · walk_at "run"
    exact h1 c
  walk_at "run"
  by_cases c2 : w.ts.length = 20
  · walk_at "run"
    exact h2 c c2
  walk_at "run"
  refine ⟨w, a, b, rfl, o, ?_⟩
  exact h3 c (by omega)
def S_untied : FS := fun ds Post => ∃ w a b, ds = [dW w, .int a, .int b] ∧ (pr a b ∉ w.ts → Post (exD "NoTie")) ∧ (pr a b ∈ w.ts → Post (dW (cutF w (pr a b))))
theorem m_untied : ∀ ds Post, S_untied ds Post → wb_untied S_is_tied S_tie_of { nx := fun _ => Post .none ∧ RK.fz = .fz, rt := fun d _ => Post d } (startE 4 ds) := by
  rintro ds Post ⟨w, a, b, rfl, h1, h2⟩
  unfold wb_untied
  walk_at "start"
  walk_at "run"
  refine ⟨w, a, b, rfl, ?_⟩
  by_cases c : pr a b ∈ w.ts
  · walk_at "run"
    refine comp_fil (h := dP) (xs := w.ts) (fun u => !decide (u = pr a b)) (fun u hu => ⟨_, rfl, fun R hR => ?_, fun _ R hR => ?_, rfl⟩) ?_
    · walk_at "run"
      refine ⟨a, b, rfl, ?_⟩
      refine ⟨_, neD_dP u (pr a b), ?_⟩
      walk_at "run"
      exact hR
    · walk_at "run"
      exact hR
    walk_at "run"
    exact h2 c
  · walk_at "run"
    exact h1 c
def S_l_changed : FS := fun ds Post => ∃ way w a b, ds = [.int way, dW w, .int a, .int b] ∧ w.ok ∧ (way = 0 ∨ way = 1) ∧ Post (dueF way w (pr a b))
theorem m_l_changed : ∀ ds Post, S_l_changed ds Post → wb_l_changed S_tied S_untied S_l_kinds { nx := fun _ => Post .none ∧ RK.fz = .fz, rt := fun d _ => Post d } (startE 6 ds) := by
  rintro ds Post ⟨way, w, a, b, rfl, o, hw, hP⟩
  have h20 := o.len
  unfold wb_l_changed
  walk_at "start"
  walk_at "run"
  refine i_tryX ?_
  refine i_asgX ?_
  refine i_pick ?_
  walk_at "run"
  rcases hw with rfl | rfl
  · have hP : Post (if pr a b ∈ w.ts then KB "There" else if w.ts.length = 20 then KB "TooMany" else dW (withW w (pr a b))) := hP
    refine .inl ⟨rfl, ?_⟩
    walk_at "run"
    refine ⟨w, a, b, rfl, o, fun c => raised (raised ?_), fun c c2 => raised (raised ?_), fun c c2 => told not_ex_tup ?_⟩
    · refine .inr (.inl ⟨rfl, ?_⟩)
      walk_at "run"
      refine i_callH rfl ⟨_, rfl, by decide +kernel, ?_⟩
      rw [if_pos c] at hP
      walk_at "run"
      exact hP
    · refine .inr (.inr (.inl ⟨rfl, ?_⟩))
      walk_at "run"
      refine i_callH rfl ⟨_, rfl, by decide +kernel, ?_⟩
      rw [if_neg c, if_pos c2] at hP
      walk_at "run"
      exact hP
    · rw [if_neg c, if_neg (by omega)] at hP
      walk_at "run"
      exact hP
  · have hP : Post (if pr a b ∈ w.ts then dW (cutF w (pr a b)) else KB "NoTie") := hP
    refine .inr ⟨rfl, ?_⟩
    walk_at "run"
    refine ⟨w, a, b, rfl, fun c => raised (raised ?_), fun c => told not_ex_tup ?_⟩
    · refine .inl ⟨rfl, ?_⟩
      walk_at "run"
      refine i_callH rfl ⟨_, rfl, by decide +kernel, ?_⟩
      rw [if_neg c] at hP
      walk_at "run"
      exact hP
    · rw [if_pos c] at hP
      walk_at "run"
      exact hP
def S_l_due_drawn : FS := fun ds Post => ∃ w a b, ds = [dW w, .int a, .int b] ∧ w.ok ∧ 0 ≤ a ∧ a < b ∧ b < w.n ∧ Post (dW (drawnW w a b))
set_option maxHeartbeats 8000000 in
theorem m_l_due_drawn : ∀ ds Post, S_l_due_drawn ds Post → wb_l_due_drawn S_l_number { nx := fun _ => Post .none ∧ RK.fz = .fz, rt := fun d _ => Post d } (startE 10 ds) := by
  rintro ds Post ⟨w, a, b, rfl, o, a0, hab, hb, hP⟩
  have n1 := o.n1
  have n9 := o.n9
  have h20 := o.len
  have od : (drawnW w a b).ok := drawn_okW o a0 hab hb
  obtain ⟨here, hh⟩ : ∃ here, here = w.ts.map fun t => (dpl t.1 a b, dpl t.2 a b) := ⟨_, rfl⟩
  obtain ⟨q, hq⟩ : ∃ q : Int × Int → Bool, q = fun u => decide (u.1 < u.2) && (decide (u ∈ here) || decide ((u.2, u.1) ∈ here)) := ⟨_, rfl⟩
  obtain ⟨L, hL⟩ : ∃ L : List (Int × Int), L = ((irng 0 (w.n * w.n)).map fun k => (k / w.n, k % w.n)).filter q := ⟨_, rfl⟩
  have hn81 : w.n * w.n ≤ 81 := by
    have := Int.mul_le_mul n9 n9 (by omega) (by omega)
    omega
  have hn0 : 0 ≤ w.n * w.n := Int.mul_nonneg (by omega) (by omega)
  have hpr : ∀ x y : Int, x < y → pr x y = (x, y) := fun x y h => by unfold pr; rw [if_neg (by omega), if_pos (by omega)]
  have hpr2 : ∀ x y : Int, y < x → pr x y = (y, x) := fun x y h => by unfold pr; rw [if_pos h, if_neg (by omega)]
  have hsrt : L.Pairwise lexP := by
    rw [hL]
    refine List.Pairwise.filter _ (List.pairwise_map.mpr ?_)
    refine (ints_sorted _ _).imp fun {x y} h => ?_
    unfold lexP
    dsimp only
    have h1 := Int.emod_add_mul_ediv x w.n
    have h2 := Int.emod_add_mul_ediv y w.n
    have h3 := Int.ediv_le_ediv (c := w.n) (by omega) (show x ≤ y by omega)
    by_cases c : x / w.n = y / w.n
    · rw [c] at h1
      exact .inr ⟨c, by omega⟩
    · exact .inl (by omega)
  have hmem : ∀ u, u ∈ L ↔ u ∈ (drawnW w a b).ts := fun u => by
    rw [drawn_mem, hL, List.mem_filter, List.mem_map, hq]
    dsimp only
    rw [Bool.and_eq_true, Bool.or_eq_true, decide_eq_true_eq, decide_eq_true_eq, decide_eq_true_eq, hh, List.mem_map, List.mem_map]
    constructor
    · rintro ⟨_, h1, ⟨t, ht, e⟩ | ⟨t, ht, e⟩⟩
      · refine ⟨t, ht, ?_, by omega⟩
        have e1 : dpl t.1 a b = u.1 := congrArg Prod.fst e
        have e2 : dpl t.2 a b = u.2 := congrArg Prod.snd e
        rw [e1, e2, hpr _ _ h1]
      · refine ⟨t, ht, ?_, by omega⟩
        have e1 : dpl t.1 a b = u.2 := congrArg Prod.fst e
        have e2 : dpl t.2 a b = u.1 := congrArg Prod.snd e
        rw [e1, e2, hpr2 _ _ h1]
    · rintro ⟨t, ht, e, ne⟩
      have hm : u ∈ (drawnW w a b).ts := drawn_mem.mpr ⟨t, ht, e, ne⟩
      have hr := od.rg u hm
      have en : (drawnW w a b).n = w.n - 1 := rfl
      rw [en] at hr
      refine ⟨⟨u.2 + w.n * u.1, mem_ints.mpr ⟨?_, ?_⟩, ?_⟩, hr.2.1, ?_⟩
      · have := Int.mul_nonneg (show 0 ≤ w.n by omega) hr.1
        omega
      · have := Int.mul_le_mul (show w.n ≤ w.n by omega) (show u.1 ≤ w.n - 1 by omega) hr.1 (show 0 ≤ w.n by omega)
        have e3 : w.n * (w.n - 1) = w.n * w.n - w.n := by rw [Int.mul_sub, Int.mul_one]
        omega
      · have e1 : (u.2 + w.n * u.1) / w.n = u.1 := by
          rw [Int.add_mul_ediv_left _ _ (by omega), Int.ediv_eq_zero_of_lt (by omega) (by omega)]; omega
        have e2 : (u.2 + w.n * u.1) % w.n = u.2 := by
          rw [Int.add_mul_emod_self_left, Int.emod_eq_of_lt (by omega) (by omega)]
        exact Prod.ext e1 e2
      · by_cases c : dpl t.1 a b < dpl t.2 a b
        · rw [hpr _ _ c] at e
          exact .inl ⟨t, ht, e⟩
        · by_cases c2 : dpl t.2 a b < dpl t.1 a b
          · rw [hpr2 _ _ c2] at e
            refine .inr ⟨t, ht, ?_⟩
            rw [← e]
          · have : dpl t.1 a b = dpl t.2 a b := by omega
            rw [this] at e
            have e2 : ∀ x : Int, pr x x = (x, x) := fun x => by unfold pr; simp
            rw [e2] at e
            rw [← e] at ne
            exact absurd rfl ne
  have hLt : L = (drawnW w a b).ts := by
    refine psort_one ((List.perm_ext_iff_of_nodup (hsrt.imp fun {x y} h e => ?_) (ok_nd od)).mpr hmem) (hsrt.imp fun h => ?_) (od.srt.imp fun h => ?_)
    · subst e; unfold lexP at h; omega
    · unfold leP; unfold lexP at h; omega
    · unfold leP; unfold lexP at h; omega
  unfold wb_l_due_drawn
  walk_at "start"
  walk_at "run"
  refine for_st (enc := .int) (L := irng 0 (w.n * w.n)) [3, 4, 5, 6, 7] (fun pre vs => ∃ s4 s5 s6 s7 : Option D, vs = [some (LP ((pre.map fun k => (k / w.n, k % w.n)).filter q)), s4, s5, s6, s7]) [_, _, _, _, _] rfl ⟨_, _, _, _, rfl⟩ ?_ ?_
  · rintro pre k post _ hk ⟨s4, s5, s6, s7, rfl⟩ R hR
    have hkr := mem_ints.mp (show k ∈ irng 0 (w.n * w.n) by rw [hk]; simp)
    have hlen : pre.length < 1000 := by
      have := congrArg List.length hk
      rw [ints_len, List.length_append, List.length_cons] at this
      omega
    clear hk
    have hfl : ((pre.map fun k => (k / w.n, k % w.n)).filter q).length ≤ pre.length := by
      have := List.length_filter_le q (pre.map fun k => (k / w.n, k % w.n))
      rwa [List.length_map] at this
    have hR := fun s4 s5 s6 s7 => hR [_, s4, s5, s6, s7] ⟨s4, s5, s6, s7, rfl⟩
    rw [List.map_append, List.filter_append, List.map_cons, List.map_nil, List.filter_cons, List.filter_nil] at hR
    generalize (pre.map fun k => (k / w.n, k % w.n)).filter q = P at *
    walk_at "run"
    refine comp_all (h := dP) (en2 := dP) (fun t => (dpl t.1 a b, dpl t.2 a b)) (fun t ht => ⟨_, rfl, fun R hR => ?_, rfl⟩) ?_
    · walk_at "run"
      refine ⟨t.1, a, b, rfl, ?_⟩
      walk_at "run"
      refine ⟨t.2, a, b, rfl, ?_⟩
      walk_at "run"
      exact hR
    rw [← hh]
    have hqk : q (k / w.n, k % w.n) = (decide (k / w.n < k % w.n) && (decide ((k / w.n, k % w.n) ∈ here) || decide ((k % w.n, k / w.n) ∈ here))) := by rw [hq]
    by_cases c1 : k / w.n < k % w.n
    · by_cases c2 : (k / w.n, k % w.n) ∈ here
      · rw [decide_eq_true c1, decide_eq_true c2] at hqk
        rw [if_pos (by rw [hqk]; rfl)] at hR
        walk_at "run"
        refine i_mut1 rfl (appendF_m (f := dP) (x := (k / w.n, k % w.n)) (by omega)) ?_
        walk_at "run"
        exact hR _ _ _ _
      · by_cases c3 : (k % w.n, k / w.n) ∈ here
        · rw [decide_eq_true c1, decide_eq_true c3, Bool.or_true] at hqk
          rw [if_pos (by rw [hqk]; rfl)] at hR
          walk_at "run"
          refine i_mut1 rfl (appendF_m (f := dP) (x := (k / w.n, k % w.n)) (by omega)) ?_
          walk_at "run"
          exact hR _ _ _ _
        · rw [decide_eq_false c2, decide_eq_false c3] at hqk
          rw [if_neg (by rw [hqk]; simp), List.append_nil] at hR
          walk_at "run"
          exact hR _ _ _ _
    · rw [decide_eq_false c1, Bool.false_and] at hqk
      rw [if_neg (by rw [hqk]; simp), List.append_nil] at hR
      walk_at "run"
      exact hR _ _ _ _
  · rintro _ ⟨s4, s5, s6, s7, rfl⟩
    rw [← hL, hLt]
    walk_at "run"
    exact hP
set_option maxHeartbeats 8000000 in
theorem m_law : ∀ ds Post, lawS ds Post → wb_law S_l_apart S_l_pool S_l_web S_l_next S_drawn S_l_is_web S_l_due_drawn S_l_due S_l_changed { nx := fun _ => Post .none ∧ RK.fz = .fz, rt := fun d _ => Post d } (startE 9 ds) := by
  rintro ds Post ⟨ns, rfl, hl, h⟩
  unfold wb_law
  walk_at "start"
  walk_at "run"
  refine ⟨rfl, ?_⟩
  have hns : addD (.list [.int 0]) (LI ns) = some (LI (0 :: ns)) := addD_1m (f := PyData.int) (x := 0) (by omega)
  walk_at "run"
  refine for_st (enc := .int) (L := 0 :: ns) [1, 2, 3, 4, 5, 6, 7, 8] (fun _ => J8) [_, _, _, _, _, _, _, _] rfl ⟨_, _, _, _, _, _, _, _, rfl⟩ ?_ ?_
  · clear hns
    rintro pre x post _ hL ⟨s1, s2, s3, s4, s5, s6, s7, s8, rfl⟩ R hR
    clear hL
    have hR := fun s1 s2 s3 s4 s5 s6 s7 s8 => hR [s1, s2, s3, s4, s5, s6, s7, s8] ⟨s1, s2, s3, s4, s5, s6, s7, s8, rfl⟩
    walk_at "run"
    refine ⟨x, rfl, fun x1 x2 x3 => ?_⟩
    walk_at "run"
    refine ⟨x1, x2, x3, rfl, ?_⟩
    walk_at "run"
    refine ⟨9, rfl, by omega, by omega, fun w o _ => ?_⟩
    have n1 := o.n1
    have n9 := o.n9
    have h20 := o.len
    by_cases n2 : 1 < w.n
    · walk_at "run"
      refine ⟨w.n, rfl, by omega, by omega, fun a a0 a1 => ?_⟩
      walk_at "run"
      refine ⟨w.n - 1, rfl, by omega, by omega, fun y y0 y1 => ?_⟩
      have hbx : 0 ≤ (a + 1 + y) % w.n ∧ (a + 1 + y) % w.n < w.n ∧ a ≠ (a + 1 + y) % w.n := by
        refine ⟨Int.emod_nonneg _ (by omega), Int.emod_lt_of_pos _ (by omega), fun e => ?_⟩
        by_cases c : a + 1 + y < w.n
        · rw [Int.emod_eq_of_lt (by omega) c] at e; omega
        · have : (a + 1 + y) % w.n = a + 1 + y - w.n := by
            rw [← Int.sub_emod_right, Int.emod_eq_of_lt (by omega) (by omega)]
          omega
      walk_at "run"
      generalize (a + 1 + y) % w.n = b at *
      obtain ⟨b0, b1, ab⟩ := hbx
      have hpr := pr_rg ⟨a0, a1⟩ ⟨b0, b1⟩ ab
      have od : (drawnW w (pr a b).1 (pr a b).2).ok := drawn_okW o hpr.1 hpr.2.1 hpr.2.2
      have n4 := neD_dW (drawnW w (pr a b).1 (pr a b).2)
      refine ⟨w, (pr a b).1, (pr a b).2, rfl, by omega, ?_⟩
      walk_at "run"
      refine ⟨_, rfl, goodW_dW (by have := od.len; omega), ?_⟩
      rw [webB_web od]
      walk_at "run"
      refine ⟨w, (pr a b).1, (pr a b).2, rfl, o, hpr.1, hpr.2.1, hpr.2.2, ?_⟩
      walk_at "run"
      refine for_st (enc := .int) (L := irng 0 2) [6, 7, 8] (fun _ => J3) [_, _, _] rfl ⟨_, _, _, rfl⟩ ?_ ?_
      · rintro pre way post _ hL ⟨s6, s7, s8, rfl⟩ R2 hR2
        have hw := mem_ints.mp (show way ∈ irng 0 2 by rw [hL]; simp)
        clear hL
        have hw2 : way = 0 ∨ way = 1 := by omega
        have hR2 := fun s1 s2 s3 => hR2 [s1, s2, s3] ⟨s1, s2, s3, rfl⟩
        have hpba : pr b a = pr a b := pr_sw a b
        have hn := neD_due way w (pr a b)
        walk_at "run"
        refine ⟨way, w, a, b, rfl, o, hw2, ⟨a0, a1⟩, ⟨b0, b1⟩, ab, ?_⟩
        walk_at "run"
        refine ⟨way, w, a, b, rfl, o, hw2, ?_⟩
        walk_at "run"
        refine ⟨way, w, b, a, rfl, o, hw2, ?_⟩
        rw [hpba]
        walk_at "run"
        rcases due_cases o (t := pr a b) hpr way with ⟨v, ov, e⟩ | ⟨l, e⟩
        · have ht : isTD "tuple" (dW v) = some (.bool true) := rfl
          rw [e]
          walk_at "run"
          refine ⟨_, rfl, goodW_dW (by have := ov.len; omega), ?_⟩
          rw [webB_web ov]
          walk_at "run"
          exact hR2 _ _ _
        · rw [e]
          walk_at "run"
          exact hR2 _ _ _
      · rintro _ ⟨s6, s7, s8, rfl⟩
        walk_at "run"
        exact hR _ _ _ _ _ _ _ _
    · walk_at "run"
      exact hR _ _ _ _ _ _ _ _
  · rintro _ ⟨s1, s2, s3, s4, s5, s6, s7, s8, rfl⟩
    walk_at "run"
    exact h

end K04
end G7
set_option maxRecDepth 100000
set_option maxHeartbeats 4000000
namespace G7
namespace K04
open PySem PySem.Spec PyProof.Rows L2
def topS (i : Nat) : Stmt := PySem.Challenge.pw_rillturn_k04_drawn_tied_untied.main.body.getD i (.Pass ⟨0, 0, 0, 0⟩)
structure TX (K : PySem.W.Frag) (mg : Str → Option Value) (C_Apart C_NoFall C_NoMouth C_NoPast C_NoPlace C_NoRow C_NoSpring C_NoText C_NoTie C_RillError C_SamePlace C_There C_TooMany : Addr) : Prop where
  g_Apart : mg "Apart" = some (.ref C_Apart)
  g_NoFall : mg "NoFall" = some (.ref C_NoFall)
  g_NoMouth : mg "NoMouth" = some (.ref C_NoMouth)
  g_NoPast : mg "NoPast" = some (.ref C_NoPast)
  g_NoPlace : mg "NoPlace" = some (.ref C_NoPlace)
  g_NoRow : mg "NoRow" = some (.ref C_NoRow)
  g_NoSpring : mg "NoSpring" = some (.ref C_NoSpring)
  g_NoText : mg "NoText" = some (.ref C_NoText)
  g_NoTie : mg "NoTie" = some (.ref C_NoTie)
  g_RillError : mg "RillError" = some (.ref C_RillError)
  g_SamePlace : mg "SamePlace" = some (.ref C_SamePlace)
  g_There : mg "There" = some (.ref C_There)
  g_TooMany : mg "TooMany" = some (.ref C_TooMany)
  k_Apart : PySem.W.keepIn K (.ref C_Apart) = true
  bs_Apart : PySem.W.subIn K (.ref C_Apart) (.type "BaseException") = some true
  ty_Apart : PySem.W.typeIn K (.ref C_Apart) = some (.type "type")
  is_Apart : PySem.W.isClsIn K C_Apart = true
  hd_Apart : PySem.W.hasDictIn K C_Apart = true
  sf_Apart : PySem.W.subIn K (.ref C_Apart) (.ref C_Apart) = some true
  k_NoFall : PySem.W.keepIn K (.ref C_NoFall) = true
  bs_NoFall : PySem.W.subIn K (.ref C_NoFall) (.type "BaseException") = some true
  ty_NoFall : PySem.W.typeIn K (.ref C_NoFall) = some (.type "type")
  is_NoFall : PySem.W.isClsIn K C_NoFall = true
  hd_NoFall : PySem.W.hasDictIn K C_NoFall = true
  sf_NoFall : PySem.W.subIn K (.ref C_NoFall) (.ref C_NoFall) = some true
  k_NoMouth : PySem.W.keepIn K (.ref C_NoMouth) = true
  bs_NoMouth : PySem.W.subIn K (.ref C_NoMouth) (.type "BaseException") = some true
  ty_NoMouth : PySem.W.typeIn K (.ref C_NoMouth) = some (.type "type")
  is_NoMouth : PySem.W.isClsIn K C_NoMouth = true
  hd_NoMouth : PySem.W.hasDictIn K C_NoMouth = true
  sf_NoMouth : PySem.W.subIn K (.ref C_NoMouth) (.ref C_NoMouth) = some true
  k_NoPast : PySem.W.keepIn K (.ref C_NoPast) = true
  bs_NoPast : PySem.W.subIn K (.ref C_NoPast) (.type "BaseException") = some true
  ty_NoPast : PySem.W.typeIn K (.ref C_NoPast) = some (.type "type")
  is_NoPast : PySem.W.isClsIn K C_NoPast = true
  hd_NoPast : PySem.W.hasDictIn K C_NoPast = true
  sf_NoPast : PySem.W.subIn K (.ref C_NoPast) (.ref C_NoPast) = some true
  k_NoPlace : PySem.W.keepIn K (.ref C_NoPlace) = true
  bs_NoPlace : PySem.W.subIn K (.ref C_NoPlace) (.type "BaseException") = some true
  ty_NoPlace : PySem.W.typeIn K (.ref C_NoPlace) = some (.type "type")
  is_NoPlace : PySem.W.isClsIn K C_NoPlace = true
  hd_NoPlace : PySem.W.hasDictIn K C_NoPlace = true
  sf_NoPlace : PySem.W.subIn K (.ref C_NoPlace) (.ref C_NoPlace) = some true
  k_NoRow : PySem.W.keepIn K (.ref C_NoRow) = true
  bs_NoRow : PySem.W.subIn K (.ref C_NoRow) (.type "BaseException") = some true
  ty_NoRow : PySem.W.typeIn K (.ref C_NoRow) = some (.type "type")
  is_NoRow : PySem.W.isClsIn K C_NoRow = true
  hd_NoRow : PySem.W.hasDictIn K C_NoRow = true
  sf_NoRow : PySem.W.subIn K (.ref C_NoRow) (.ref C_NoRow) = some true
  k_NoSpring : PySem.W.keepIn K (.ref C_NoSpring) = true
  bs_NoSpring : PySem.W.subIn K (.ref C_NoSpring) (.type "BaseException") = some true
  ty_NoSpring : PySem.W.typeIn K (.ref C_NoSpring) = some (.type "type")
  is_NoSpring : PySem.W.isClsIn K C_NoSpring = true
  hd_NoSpring : PySem.W.hasDictIn K C_NoSpring = true
  sf_NoSpring : PySem.W.subIn K (.ref C_NoSpring) (.ref C_NoSpring) = some true
  k_NoText : PySem.W.keepIn K (.ref C_NoText) = true
  bs_NoText : PySem.W.subIn K (.ref C_NoText) (.type "BaseException") = some true
  ty_NoText : PySem.W.typeIn K (.ref C_NoText) = some (.type "type")
  is_NoText : PySem.W.isClsIn K C_NoText = true
  hd_NoText : PySem.W.hasDictIn K C_NoText = true
  sf_NoText : PySem.W.subIn K (.ref C_NoText) (.ref C_NoText) = some true
  k_NoTie : PySem.W.keepIn K (.ref C_NoTie) = true
  bs_NoTie : PySem.W.subIn K (.ref C_NoTie) (.type "BaseException") = some true
  ty_NoTie : PySem.W.typeIn K (.ref C_NoTie) = some (.type "type")
  is_NoTie : PySem.W.isClsIn K C_NoTie = true
  hd_NoTie : PySem.W.hasDictIn K C_NoTie = true
  sf_NoTie : PySem.W.subIn K (.ref C_NoTie) (.ref C_NoTie) = some true
  k_RillError : PySem.W.keepIn K (.ref C_RillError) = true
  bs_RillError : PySem.W.subIn K (.ref C_RillError) (.type "BaseException") = some true
  ty_RillError : PySem.W.typeIn K (.ref C_RillError) = some (.type "type")
  is_RillError : PySem.W.isClsIn K C_RillError = true
  hd_RillError : PySem.W.hasDictIn K C_RillError = true
  sf_RillError : PySem.W.subIn K (.ref C_RillError) (.ref C_RillError) = some true
  k_SamePlace : PySem.W.keepIn K (.ref C_SamePlace) = true
  bs_SamePlace : PySem.W.subIn K (.ref C_SamePlace) (.type "BaseException") = some true
  ty_SamePlace : PySem.W.typeIn K (.ref C_SamePlace) = some (.type "type")
  is_SamePlace : PySem.W.isClsIn K C_SamePlace = true
  hd_SamePlace : PySem.W.hasDictIn K C_SamePlace = true
  sf_SamePlace : PySem.W.subIn K (.ref C_SamePlace) (.ref C_SamePlace) = some true
  k_There : PySem.W.keepIn K (.ref C_There) = true
  bs_There : PySem.W.subIn K (.ref C_There) (.type "BaseException") = some true
  ty_There : PySem.W.typeIn K (.ref C_There) = some (.type "type")
  is_There : PySem.W.isClsIn K C_There = true
  hd_There : PySem.W.hasDictIn K C_There = true
  sf_There : PySem.W.subIn K (.ref C_There) (.ref C_There) = some true
  k_TooMany : PySem.W.keepIn K (.ref C_TooMany) = true
  bs_TooMany : PySem.W.subIn K (.ref C_TooMany) (.type "BaseException") = some true
  ty_TooMany : PySem.W.typeIn K (.ref C_TooMany) = some (.type "type")
  is_TooMany : PySem.W.isClsIn K C_TooMany = true
  hd_TooMany : PySem.W.hasDictIn K C_TooMany = true
  sf_TooMany : PySem.W.subIn K (.ref C_TooMany) (.ref C_TooMany) = some true
  ga_Apart : PySem.W.findIn K (.ref C_Apart) "__getattribute__" = some (some (.builtin "BaseException.__getattribute__"))
  gg_Apart : PySem.W.findIn K (.ref C_Apart) "__getattr__" = some none
  gc_Apart : PySem.W.findIn K (.ref C_Apart) "__class__" = some (some (.builtin "object.__class__"))
  mo_Apart : PySem.W.mroIn K C_Apart (.type "object") = some true
  ga_NoFall : PySem.W.findIn K (.ref C_NoFall) "__getattribute__" = some (some (.builtin "BaseException.__getattribute__"))
  gg_NoFall : PySem.W.findIn K (.ref C_NoFall) "__getattr__" = some none
  gc_NoFall : PySem.W.findIn K (.ref C_NoFall) "__class__" = some (some (.builtin "object.__class__"))
  mo_NoFall : PySem.W.mroIn K C_NoFall (.type "object") = some true
  ga_NoMouth : PySem.W.findIn K (.ref C_NoMouth) "__getattribute__" = some (some (.builtin "BaseException.__getattribute__"))
  gg_NoMouth : PySem.W.findIn K (.ref C_NoMouth) "__getattr__" = some none
  gc_NoMouth : PySem.W.findIn K (.ref C_NoMouth) "__class__" = some (some (.builtin "object.__class__"))
  mo_NoMouth : PySem.W.mroIn K C_NoMouth (.type "object") = some true
  ga_NoPast : PySem.W.findIn K (.ref C_NoPast) "__getattribute__" = some (some (.builtin "BaseException.__getattribute__"))
  gg_NoPast : PySem.W.findIn K (.ref C_NoPast) "__getattr__" = some none
  gc_NoPast : PySem.W.findIn K (.ref C_NoPast) "__class__" = some (some (.builtin "object.__class__"))
  mo_NoPast : PySem.W.mroIn K C_NoPast (.type "object") = some true
  ga_NoPlace : PySem.W.findIn K (.ref C_NoPlace) "__getattribute__" = some (some (.builtin "BaseException.__getattribute__"))
  gg_NoPlace : PySem.W.findIn K (.ref C_NoPlace) "__getattr__" = some none
  gc_NoPlace : PySem.W.findIn K (.ref C_NoPlace) "__class__" = some (some (.builtin "object.__class__"))
  mo_NoPlace : PySem.W.mroIn K C_NoPlace (.type "object") = some true
  ga_NoRow : PySem.W.findIn K (.ref C_NoRow) "__getattribute__" = some (some (.builtin "BaseException.__getattribute__"))
  gg_NoRow : PySem.W.findIn K (.ref C_NoRow) "__getattr__" = some none
  gc_NoRow : PySem.W.findIn K (.ref C_NoRow) "__class__" = some (some (.builtin "object.__class__"))
  mo_NoRow : PySem.W.mroIn K C_NoRow (.type "object") = some true
  ga_NoSpring : PySem.W.findIn K (.ref C_NoSpring) "__getattribute__" = some (some (.builtin "BaseException.__getattribute__"))
  gg_NoSpring : PySem.W.findIn K (.ref C_NoSpring) "__getattr__" = some none
  gc_NoSpring : PySem.W.findIn K (.ref C_NoSpring) "__class__" = some (some (.builtin "object.__class__"))
  mo_NoSpring : PySem.W.mroIn K C_NoSpring (.type "object") = some true
  ga_NoText : PySem.W.findIn K (.ref C_NoText) "__getattribute__" = some (some (.builtin "BaseException.__getattribute__"))
  gg_NoText : PySem.W.findIn K (.ref C_NoText) "__getattr__" = some none
  gc_NoText : PySem.W.findIn K (.ref C_NoText) "__class__" = some (some (.builtin "object.__class__"))
  mo_NoText : PySem.W.mroIn K C_NoText (.type "object") = some true
  ga_NoTie : PySem.W.findIn K (.ref C_NoTie) "__getattribute__" = some (some (.builtin "BaseException.__getattribute__"))
  gg_NoTie : PySem.W.findIn K (.ref C_NoTie) "__getattr__" = some none
  gc_NoTie : PySem.W.findIn K (.ref C_NoTie) "__class__" = some (some (.builtin "object.__class__"))
  mo_NoTie : PySem.W.mroIn K C_NoTie (.type "object") = some true
  ga_RillError : PySem.W.findIn K (.ref C_RillError) "__getattribute__" = some (some (.builtin "BaseException.__getattribute__"))
  gg_RillError : PySem.W.findIn K (.ref C_RillError) "__getattr__" = some none
  gc_RillError : PySem.W.findIn K (.ref C_RillError) "__class__" = some (some (.builtin "object.__class__"))
  mo_RillError : PySem.W.mroIn K C_RillError (.type "object") = some true
  ga_SamePlace : PySem.W.findIn K (.ref C_SamePlace) "__getattribute__" = some (some (.builtin "BaseException.__getattribute__"))
  gg_SamePlace : PySem.W.findIn K (.ref C_SamePlace) "__getattr__" = some none
  gc_SamePlace : PySem.W.findIn K (.ref C_SamePlace) "__class__" = some (some (.builtin "object.__class__"))
  mo_SamePlace : PySem.W.mroIn K C_SamePlace (.type "object") = some true
  ga_There : PySem.W.findIn K (.ref C_There) "__getattribute__" = some (some (.builtin "BaseException.__getattribute__"))
  gg_There : PySem.W.findIn K (.ref C_There) "__getattr__" = some none
  gc_There : PySem.W.findIn K (.ref C_There) "__class__" = some (some (.builtin "object.__class__"))
  mo_There : PySem.W.mroIn K C_There (.type "object") = some true
  ga_TooMany : PySem.W.findIn K (.ref C_TooMany) "__getattribute__" = some (some (.builtin "BaseException.__getattribute__"))
  gg_TooMany : PySem.W.findIn K (.ref C_TooMany) "__getattr__" = some none
  gc_TooMany : PySem.W.findIn K (.ref C_TooMany) "__class__" = some (some (.builtin "object.__class__"))
  mo_TooMany : PySem.W.mroIn K C_TooMany (.type "object") = some true
  ek_Apart : clsOf K "Apart" = some C_Apart
  et_Apart : (["NoneType", "bool", "int", "str", "list", "tuple", "dict"].all fun t => PySem.W.kitOne K (.ref C_Apart) (.type t) == some false) = true
  ek_NoFall : clsOf K "NoFall" = some C_NoFall
  et_NoFall : (["NoneType", "bool", "int", "str", "list", "tuple", "dict"].all fun t => PySem.W.kitOne K (.ref C_NoFall) (.type t) == some false) = true
  ek_NoMouth : clsOf K "NoMouth" = some C_NoMouth
  et_NoMouth : (["NoneType", "bool", "int", "str", "list", "tuple", "dict"].all fun t => PySem.W.kitOne K (.ref C_NoMouth) (.type t) == some false) = true
  ek_NoPast : clsOf K "NoPast" = some C_NoPast
  et_NoPast : (["NoneType", "bool", "int", "str", "list", "tuple", "dict"].all fun t => PySem.W.kitOne K (.ref C_NoPast) (.type t) == some false) = true
  ek_NoPlace : clsOf K "NoPlace" = some C_NoPlace
  et_NoPlace : (["NoneType", "bool", "int", "str", "list", "tuple", "dict"].all fun t => PySem.W.kitOne K (.ref C_NoPlace) (.type t) == some false) = true
  ek_NoRow : clsOf K "NoRow" = some C_NoRow
  et_NoRow : (["NoneType", "bool", "int", "str", "list", "tuple", "dict"].all fun t => PySem.W.kitOne K (.ref C_NoRow) (.type t) == some false) = true
  ek_NoSpring : clsOf K "NoSpring" = some C_NoSpring
  et_NoSpring : (["NoneType", "bool", "int", "str", "list", "tuple", "dict"].all fun t => PySem.W.kitOne K (.ref C_NoSpring) (.type t) == some false) = true
  ek_NoText : clsOf K "NoText" = some C_NoText
  et_NoText : (["NoneType", "bool", "int", "str", "list", "tuple", "dict"].all fun t => PySem.W.kitOne K (.ref C_NoText) (.type t) == some false) = true
  ek_NoTie : clsOf K "NoTie" = some C_NoTie
  et_NoTie : (["NoneType", "bool", "int", "str", "list", "tuple", "dict"].all fun t => PySem.W.kitOne K (.ref C_NoTie) (.type t) == some false) = true
  ek_RillError : clsOf K "RillError" = some C_RillError
  et_RillError : (["NoneType", "bool", "int", "str", "list", "tuple", "dict"].all fun t => PySem.W.kitOne K (.ref C_RillError) (.type t) == some false) = true
  ek_SamePlace : clsOf K "SamePlace" = some C_SamePlace
  et_SamePlace : (["NoneType", "bool", "int", "str", "list", "tuple", "dict"].all fun t => PySem.W.kitOne K (.ref C_SamePlace) (.type t) == some false) = true
  ek_There : clsOf K "There" = some C_There
  et_There : (["NoneType", "bool", "int", "str", "list", "tuple", "dict"].all fun t => PySem.W.kitOne K (.ref C_There) (.type t) == some false) = true
  ek_TooMany : clsOf K "TooMany" = some C_TooMany
  et_TooMany : (["NoneType", "bool", "int", "str", "list", "tuple", "dict"].all fun t => PySem.W.kitOne K (.ref C_TooMany) (.type t) == some false) = true
  x_Apart : PySem.W.excIn K C_Apart [.type "ValueError", .type "Exception", .type "BaseException", .type "object"] "ValueError.__new__" = true
  x_NoFall : PySem.W.excIn K C_NoFall [.type "ValueError", .type "Exception", .type "BaseException", .type "object"] "ValueError.__new__" = true
  x_NoMouth : PySem.W.excIn K C_NoMouth [.type "ValueError", .type "Exception", .type "BaseException", .type "object"] "ValueError.__new__" = true
  x_NoPast : PySem.W.excIn K C_NoPast [.type "ValueError", .type "Exception", .type "BaseException", .type "object"] "ValueError.__new__" = true
  x_NoPlace : PySem.W.excIn K C_NoPlace [.type "ValueError", .type "Exception", .type "BaseException", .type "object"] "ValueError.__new__" = true
  x_NoRow : PySem.W.excIn K C_NoRow [.type "ValueError", .type "Exception", .type "BaseException", .type "object"] "ValueError.__new__" = true
  x_NoSpring : PySem.W.excIn K C_NoSpring [.type "ValueError", .type "Exception", .type "BaseException", .type "object"] "ValueError.__new__" = true
  x_NoText : PySem.W.excIn K C_NoText [.type "ValueError", .type "Exception", .type "BaseException", .type "object"] "ValueError.__new__" = true
  x_NoTie : PySem.W.excIn K C_NoTie [.type "ValueError", .type "Exception", .type "BaseException", .type "object"] "ValueError.__new__" = true
  x_RillError : PySem.W.excIn K C_RillError [.type "ValueError", .type "Exception", .type "BaseException", .type "object"] "ValueError.__new__" = true
  x_SamePlace : PySem.W.excIn K C_SamePlace [.type "ValueError", .type "Exception", .type "BaseException", .type "object"] "ValueError.__new__" = true
  x_There : PySem.W.excIn K C_There [.type "ValueError", .type "Exception", .type "BaseException", .type "object"] "ValueError.__new__" = true
  x_TooMany : PySem.W.excIn K C_TooMany [.type "ValueError", .type "Exception", .type "BaseException", .type "object"] "ValueError.__new__" = true
  su_NoTie_RillError : PySem.W.subIn K (.ref C_NoTie) (.ref C_RillError) = some true
  su_There_RillError : PySem.W.subIn K (.ref C_There) (.ref C_RillError) = some true
  su_TooMany_RillError : PySem.W.subIn K (.ref C_TooMany) (.ref C_RillError) = some true
  tb_Apart : tabOkB K (.ref C_Apart) [("RillError", false), ("TooMany", false), ("There", false), ("NoTie", false), ("NoSpring", false), ("NoMouth", false), ("Apart", true), ("SamePlace", false), ("NoText", false), ("NoRow", false), ("NoPlace", false), ("NoFall", false), ("NoPast", false)] = true
  tb_NoFall : tabOkB K (.ref C_NoFall) [("RillError", false), ("TooMany", false), ("There", false), ("NoTie", false), ("NoSpring", false), ("NoMouth", false), ("Apart", false), ("SamePlace", false), ("NoText", false), ("NoRow", false), ("NoPlace", false), ("NoFall", true), ("NoPast", false)] = true
  tb_NoMouth : tabOkB K (.ref C_NoMouth) [("RillError", false), ("TooMany", false), ("There", false), ("NoTie", false), ("NoSpring", false), ("NoMouth", true), ("Apart", false), ("SamePlace", false), ("NoText", false), ("NoRow", false), ("NoPlace", false), ("NoFall", false), ("NoPast", false)] = true
  tb_NoPast : tabOkB K (.ref C_NoPast) [("RillError", false), ("TooMany", false), ("There", false), ("NoTie", false), ("NoSpring", false), ("NoMouth", false), ("Apart", false), ("SamePlace", false), ("NoText", false), ("NoRow", false), ("NoPlace", false), ("NoFall", false), ("NoPast", true)] = true
  tb_NoPlace : tabOkB K (.ref C_NoPlace) [("RillError", false), ("TooMany", false), ("There", false), ("NoTie", false), ("NoSpring", false), ("NoMouth", false), ("Apart", false), ("SamePlace", false), ("NoText", false), ("NoRow", false), ("NoPlace", true), ("NoFall", false), ("NoPast", false)] = true
  tb_NoRow : tabOkB K (.ref C_NoRow) [("RillError", false), ("TooMany", false), ("There", false), ("NoTie", false), ("NoSpring", false), ("NoMouth", false), ("Apart", false), ("SamePlace", false), ("NoText", false), ("NoRow", true), ("NoPlace", false), ("NoFall", false), ("NoPast", false)] = true
  tb_NoSpring : tabOkB K (.ref C_NoSpring) [("RillError", false), ("TooMany", false), ("There", false), ("NoTie", false), ("NoSpring", true), ("NoMouth", false), ("Apart", false), ("SamePlace", false), ("NoText", false), ("NoRow", false), ("NoPlace", false), ("NoFall", false), ("NoPast", false)] = true
  tb_NoText : tabOkB K (.ref C_NoText) [("RillError", false), ("TooMany", false), ("There", false), ("NoTie", false), ("NoSpring", false), ("NoMouth", false), ("Apart", false), ("SamePlace", false), ("NoText", true), ("NoRow", false), ("NoPlace", false), ("NoFall", false), ("NoPast", false)] = true
  tb_NoTie : tabOkB K (.ref C_NoTie) [("RillError", false), ("TooMany", false), ("There", false), ("NoTie", true), ("NoSpring", false), ("NoMouth", false), ("Apart", false), ("SamePlace", false), ("NoText", false), ("NoRow", false), ("NoPlace", false), ("NoFall", false), ("NoPast", false)] = true
  tb_RillError : tabOkB K (.ref C_RillError) [("RillError", true), ("TooMany", true), ("There", true), ("NoTie", true), ("NoSpring", true), ("NoMouth", true), ("Apart", true), ("SamePlace", true), ("NoText", true), ("NoRow", true), ("NoPlace", true), ("NoFall", true), ("NoPast", true)] = true
  tb_SamePlace : tabOkB K (.ref C_SamePlace) [("RillError", false), ("TooMany", false), ("There", false), ("NoTie", false), ("NoSpring", false), ("NoMouth", false), ("Apart", false), ("SamePlace", true), ("NoText", false), ("NoRow", false), ("NoPlace", false), ("NoFall", false), ("NoPast", false)] = true
  tb_There : tabOkB K (.ref C_There) [("RillError", false), ("TooMany", false), ("There", true), ("NoTie", false), ("NoSpring", false), ("NoMouth", false), ("Apart", false), ("SamePlace", false), ("NoText", false), ("NoRow", false), ("NoPlace", false), ("NoFall", false), ("NoPast", false)] = true
  tb_TooMany : tabOkB K (.ref C_TooMany) [("RillError", false), ("TooMany", true), ("There", false), ("NoTie", false), ("NoSpring", false), ("NoMouth", false), ("Apart", false), ("SamePlace", false), ("NoText", false), ("NoRow", false), ("NoPlace", false), ("NoFall", false), ("NoPast", false)] = true
  tb_ValueError : tabOkB K (.type "ValueError") [("RillError", true), ("TooMany", true), ("There", true), ("NoTie", true), ("NoSpring", true), ("NoMouth", true), ("Apart", true), ("SamePlace", true), ("NoText", true), ("NoRow", true), ("NoPlace", true), ("NoFall", true), ("NoPast", true)] = true
  sp0 : PySem.W.specialIn K (.builtin "object.__class__") "__get__" = some (some (.builtin "getset_descriptor.__get__"))
  tk0 : PySem.W.takesIn K (.builtin "object.__class__") = some true
  b_ValueError : mg "ValueError" = none
  b_bool : mg "bool" = none
  b_int : mg "int" = none
  b_isinstance : mg "isinstance" = none
  b_len : mg "len" = none
  b_max : mg "max" = none
  b_min : mg "min" = none
  b_range : mg "range" = none
  b_sorted : mg "sorted" = none
  b_tuple : mg "tuple" = none
  c_MOST_TIES : ∃ t : Tok, mg "MOST_TIES" = some (.int 20 t)
abbrev s_l_kinds : Stmt := topS 31
abbrev N_l_kinds : List Str := ["e", "kinds"]
abbrev k_l_kinds : List SK := [.v, .v]
theorem sc_l_kinds : FnScope N_l_kinds ["e"] (defScope s_l_kinds) := ⟨rfl, rfl, rfl, by decide +kernel, rfl, by decide +kernel, by decide +kernel⟩
theorem b_l_kinds {P : Program} {w : World} {K : PySem.W.Frag} {mg : Str → Option Value} {base : Heap} {C_Apart C_NoFall C_NoMouth C_NoPast C_NoPlace C_NoRow C_NoSpring C_NoText C_NoTie C_RillError C_SamePlace C_There C_TooMany : Addr} (T : TX K mg C_Apart C_NoFall C_NoMouth C_NoPast C_NoPlace C_NoRow C_NoSpring C_NoText C_NoTie C_RillError C_SamePlace C_There C_TooMany) {f : Addr} (cdv : Value) (A : Around) (outer : List Env) (s : Shared) (H : Hp) (E : XK) (hr : Room 0 (A.deeper (envOfC "_law_kinds" (defScope s_l_kinds) s.heap.objs.size f cdv))) :
    SSs (cxOf CX0 P w K mg base N_l_kinds "_law_kinds" (defScope s_l_kinds) f cdv A outer s H E).nox k_l_kinds [] .fz (defBody s_l_kinds) (wb_l_kinds) :=
  (sss_cons (ss_set (Me := []) (i := 1) sc_l_kinds.nd rfl (by first | exact Or.inl rfl | exact Or.inr rfl) (SE.nf (se_lst (sa_cons (se_isC (tab := [("RillError", false), ("TooMany", true), ("There", false), ("NoTie", false), ("NoSpring", false), ("NoMouth", false), ("Apart", false), ("SamePlace", false), ("NoText", false), ("NoRow", false), ("NoPlace", false), ("NoFall", false), ("NoPast", false)]) T.tb_TooMany (pv 0) (by rfl) T.b_isinstance (CA.own (by rfl) T.g_TooMany rfl) rfl) (sa_cons (se_isC (tab := [("RillError", false), ("TooMany", false), ("There", true), ("NoTie", false), ("NoSpring", false), ("NoMouth", false), ("Apart", false), ("SamePlace", false), ("NoText", false), ("NoRow", false), ("NoPlace", false), ("NoFall", false), ("NoPast", false)]) T.tb_There (pv 0) (by rfl) T.b_isinstance (CA.own (by rfl) T.g_There rfl) rfl) (sa_cons (se_isC (tab := [("RillError", false), ("TooMany", false), ("There", false), ("NoTie", true), ("NoSpring", false), ("NoMouth", false), ("Apart", false), ("SamePlace", false), ("NoText", false), ("NoRow", false), ("NoPlace", false), ("NoFall", false), ("NoPast", false)]) T.tb_NoTie (pv 0) (by rfl) T.b_isinstance (CA.own (by rfl) T.g_NoTie rfl) rfl) (sa_cons (se_isC (tab := [("RillError", false), ("TooMany", false), ("There", false), ("NoTie", false), ("NoSpring", true), ("NoMouth", false), ("Apart", false), ("SamePlace", false), ("NoText", false), ("NoRow", false), ("NoPlace", false), ("NoFall", false), ("NoPast", false)]) T.tb_NoSpring (pv 0) (by rfl) T.b_isinstance (CA.own (by rfl) T.g_NoSpring rfl) rfl) sa_nil)))))) rfl)
      (sss_cons (ss_set (Me := []) (i := 1) sc_l_kinds.nd rfl (by first | exact Or.inl rfl | exact Or.inr rfl) (se_bin op_addF od_add (se_v (pv 1) rfl) (se_lst (sa_cons (se_isC (tab := [("RillError", false), ("TooMany", false), ("There", false), ("NoTie", false), ("NoSpring", false), ("NoMouth", true), ("Apart", false), ("SamePlace", false), ("NoText", false), ("NoRow", false), ("NoPlace", false), ("NoFall", false), ("NoPast", false)]) T.tb_NoMouth (pv 0) (by rfl) T.b_isinstance (CA.own (by rfl) T.g_NoMouth rfl) rfl) (sa_cons (se_isC (tab := [("RillError", false), ("TooMany", false), ("There", false), ("NoTie", false), ("NoSpring", false), ("NoMouth", false), ("Apart", true), ("SamePlace", false), ("NoText", false), ("NoRow", false), ("NoPlace", false), ("NoFall", false), ("NoPast", false)]) T.tb_Apart (pv 0) (by rfl) T.b_isinstance (CA.own (by rfl) T.g_Apart rfl) rfl) (sa_cons (se_isC (tab := [("RillError", false), ("TooMany", false), ("There", false), ("NoTie", false), ("NoSpring", false), ("NoMouth", false), ("Apart", false), ("SamePlace", true), ("NoText", false), ("NoRow", false), ("NoPlace", false), ("NoFall", false), ("NoPast", false)]) T.tb_SamePlace (pv 0) (by rfl) T.b_isinstance (CA.own (by rfl) T.g_SamePlace rfl) rfl) (sa_cons (se_isC (tab := [("RillError", false), ("TooMany", false), ("There", false), ("NoTie", false), ("NoSpring", false), ("NoMouth", false), ("Apart", false), ("SamePlace", false), ("NoText", true), ("NoRow", false), ("NoPlace", false), ("NoFall", false), ("NoPast", false)]) T.tb_NoText (pv 0) (by rfl) T.b_isinstance (CA.own (by rfl) T.g_NoText rfl) rfl) sa_nil)))))) rfl)
      (sss_cons (ss_set (Me := []) (i := 1) sc_l_kinds.nd rfl (by first | exact Or.inl rfl | exact Or.inr rfl) (se_bin op_addF od_add (se_v (pv 1) rfl) (se_lst (sa_cons (se_isC (tab := [("RillError", false), ("TooMany", false), ("There", false), ("NoTie", false), ("NoSpring", false), ("NoMouth", false), ("Apart", false), ("SamePlace", false), ("NoText", false), ("NoRow", true), ("NoPlace", false), ("NoFall", false), ("NoPast", false)]) T.tb_NoRow (pv 0) (by rfl) T.b_isinstance (CA.own (by rfl) T.g_NoRow rfl) rfl) (sa_cons (se_isC (tab := [("RillError", false), ("TooMany", false), ("There", false), ("NoTie", false), ("NoSpring", false), ("NoMouth", false), ("Apart", false), ("SamePlace", false), ("NoText", false), ("NoRow", false), ("NoPlace", true), ("NoFall", false), ("NoPast", false)]) T.tb_NoPlace (pv 0) (by rfl) T.b_isinstance (CA.own (by rfl) T.g_NoPlace rfl) rfl) (sa_cons (se_isC (tab := [("RillError", false), ("TooMany", false), ("There", false), ("NoTie", false), ("NoSpring", false), ("NoMouth", false), ("Apart", false), ("SamePlace", false), ("NoText", false), ("NoRow", false), ("NoPlace", false), ("NoFall", true), ("NoPast", false)]) T.tb_NoFall (pv 0) (by rfl) T.b_isinstance (CA.own (by rfl) T.g_NoFall rfl) rfl) (sa_cons (se_isC (tab := [("RillError", false), ("TooMany", false), ("There", false), ("NoTie", false), ("NoSpring", false), ("NoMouth", false), ("Apart", false), ("SamePlace", false), ("NoText", false), ("NoRow", false), ("NoPlace", false), ("NoFall", false), ("NoPast", true)]) T.tb_NoPast (pv 0) (by rfl) T.b_isinstance (CA.own (by rfl) T.g_NoPast rfl) rfl) sa_nil)))))) rfl)
      (sss_one (ss_ret (Me := []) (se_bin op_addF od_add (se_v (pv 1) rfl) (se_lst (sa_cons (se_isC (tab := [("RillError", true), ("TooMany", true), ("There", true), ("NoTie", true), ("NoSpring", true), ("NoMouth", true), ("Apart", true), ("SamePlace", true), ("NoText", true), ("NoRow", true), ("NoPlace", true), ("NoFall", true), ("NoPast", true)]) T.tb_RillError (pv 0) (by rfl) T.b_isinstance (CA.own (by rfl) T.g_RillError rfl) rfl) (sa_cons (se_isC (tab := [("RillError", true), ("TooMany", true), ("There", true), ("NoTie", true), ("NoSpring", true), ("NoMouth", true), ("Apart", true), ("SamePlace", true), ("NoText", true), ("NoRow", true), ("NoPlace", true), ("NoFall", true), ("NoPast", true)]) T.tb_ValueError (pv 0) (by rfl) T.b_isinstance (CA.blt (by rfl) T.b_ValueError (by decide +kernel) (by decide) rfl) rfl) sa_nil)))))))))
theorem g_l_kinds {P : Program} {w : World} {K : PySem.W.Frag} {mg : Str → Option Value} {base : Heap} {f : Addr} {fd : FuncData} {C_Apart C_NoFall C_NoMouth C_NoPast C_NoPlace C_NoRow C_NoSpring C_NoText C_NoTie C_RillError C_SamePlace C_There C_TooMany : Addr} (T : TX K mg C_Apart C_NoFall C_NoMouth C_NoPast C_NoPlace C_NoRow C_NoSpring C_NoText C_NoTie C_RillError C_SamePlace C_There C_TooMany) (F : Fun K "_law_kinds" "_law_kinds" s_l_kinds f fd) (hm : mg "_law_kinds" = some (.ref f)) : FnB P w K mg base 1 "_law_kinds" ["e"] [.fz] .fz S_l_kinds :=
  ⟨f, fd, fn_def [.fz] F sc_l_kinds rfl rfl rfl (by first | exact .inl rfl | exact .inr rfl) (by intro i; match i with | i => exact noq (by decide) i) (b_l_kinds T) m_l_kinds, hm, F.kp, F.binds fun _ _ _ _ _ _ us hl => match us, hl with | [_], _ => rfl⟩
theorem bh_l_kinds {P : Program} {w : World} {K : PySem.W.Frag} {mg : Str → Option Value} {base : Heap} {C_Apart C_NoFall C_NoMouth C_NoPast C_NoPlace C_NoRow C_NoSpring C_NoText C_NoTie C_RillError C_SamePlace C_There C_TooMany : Addr} (T : TX K mg C_Apart C_NoFall C_NoMouth C_NoPast C_NoPlace C_NoRow C_NoSpring C_NoText C_NoTie C_RillError C_SamePlace C_There C_TooMany) {f : Addr} (cdv : Value) (A : Around) (outer : List Env) (s : Shared) (H : Hp) (E : XK) (p : Addr × Obj) (C : Addr) (cn : Str) (hot : L2H.Hot1 A p) (hz : L2N.Zn (.ref C) none p.2) (hf : ∃ fs, p.2.data = .fields fs) (EK : ExK K cn C) :
    SSs (cxP P w K mg base N_l_kinds "_law_kinds" (defScope s_l_kinds) f cdv A outer s H E p).nox (.x p.1 cn :: [.v]) [] .fz (defBody s_l_kinds) (wb_l_kinds) := by
  have hp : (p.1, p.2) ∈ (cxP P w K mg base N_l_kinds "_law_kinds" (defScope s_l_kinds) f cdv A outer s H E p).nox.pn := List.mem_cons_self
  exact (sss_cons (ss_set (Me := []) (i := 1) sc_l_kinds.nd rfl (by first | exact Or.inl rfl | exact Or.inr rfl) (SE.nf (se_lst (sa_cons (se_isP (tab := [("RillError", false), ("TooMany", true), ("There", false), ("NoTie", false), ("NoSpring", false), ("NoMouth", false), ("Apart", false), ("SamePlace", false), ("NoText", false), ("NoRow", false), ("NoPlace", false), ("NoFall", false), ("NoPast", false)]) T.tb_TooMany EK hz hf hp (pv 0) (by rfl) T.b_isinstance (CA.own (by rfl) T.g_TooMany rfl) rfl) (sa_cons (se_isP (tab := [("RillError", false), ("TooMany", false), ("There", true), ("NoTie", false), ("NoSpring", false), ("NoMouth", false), ("Apart", false), ("SamePlace", false), ("NoText", false), ("NoRow", false), ("NoPlace", false), ("NoFall", false), ("NoPast", false)]) T.tb_There EK hz hf hp (pv 0) (by rfl) T.b_isinstance (CA.own (by rfl) T.g_There rfl) rfl) (sa_cons (se_isP (tab := [("RillError", false), ("TooMany", false), ("There", false), ("NoTie", true), ("NoSpring", false), ("NoMouth", false), ("Apart", false), ("SamePlace", false), ("NoText", false), ("NoRow", false), ("NoPlace", false), ("NoFall", false), ("NoPast", false)]) T.tb_NoTie EK hz hf hp (pv 0) (by rfl) T.b_isinstance (CA.own (by rfl) T.g_NoTie rfl) rfl) (sa_cons (se_isP (tab := [("RillError", false), ("TooMany", false), ("There", false), ("NoTie", false), ("NoSpring", true), ("NoMouth", false), ("Apart", false), ("SamePlace", false), ("NoText", false), ("NoRow", false), ("NoPlace", false), ("NoFall", false), ("NoPast", false)]) T.tb_NoSpring EK hz hf hp (pv 0) (by rfl) T.b_isinstance (CA.own (by rfl) T.g_NoSpring rfl) rfl) sa_nil)))))) rfl)
      (sss_cons (ss_set (Me := []) (i := 1) sc_l_kinds.nd rfl (by first | exact Or.inl rfl | exact Or.inr rfl) (se_bin op_addF od_add (se_v (pv 1) rfl) (se_lst (sa_cons (se_isP (tab := [("RillError", false), ("TooMany", false), ("There", false), ("NoTie", false), ("NoSpring", false), ("NoMouth", true), ("Apart", false), ("SamePlace", false), ("NoText", false), ("NoRow", false), ("NoPlace", false), ("NoFall", false), ("NoPast", false)]) T.tb_NoMouth EK hz hf hp (pv 0) (by rfl) T.b_isinstance (CA.own (by rfl) T.g_NoMouth rfl) rfl) (sa_cons (se_isP (tab := [("RillError", false), ("TooMany", false), ("There", false), ("NoTie", false), ("NoSpring", false), ("NoMouth", false), ("Apart", true), ("SamePlace", false), ("NoText", false), ("NoRow", false), ("NoPlace", false), ("NoFall", false), ("NoPast", false)]) T.tb_Apart EK hz hf hp (pv 0) (by rfl) T.b_isinstance (CA.own (by rfl) T.g_Apart rfl) rfl) (sa_cons (se_isP (tab := [("RillError", false), ("TooMany", false), ("There", false), ("NoTie", false), ("NoSpring", false), ("NoMouth", false), ("Apart", false), ("SamePlace", true), ("NoText", false), ("NoRow", false), ("NoPlace", false), ("NoFall", false), ("NoPast", false)]) T.tb_SamePlace EK hz hf hp (pv 0) (by rfl) T.b_isinstance (CA.own (by rfl) T.g_SamePlace rfl) rfl) (sa_cons (se_isP (tab := [("RillError", false), ("TooMany", false), ("There", false), ("NoTie", false), ("NoSpring", false), ("NoMouth", false), ("Apart", false), ("SamePlace", false), ("NoText", true), ("NoRow", false), ("NoPlace", false), ("NoFall", false), ("NoPast", false)]) T.tb_NoText EK hz hf hp (pv 0) (by rfl) T.b_isinstance (CA.own (by rfl) T.g_NoText rfl) rfl) sa_nil)))))) rfl)
      (sss_cons (ss_set (Me := []) (i := 1) sc_l_kinds.nd rfl (by first | exact Or.inl rfl | exact Or.inr rfl) (se_bin op_addF od_add (se_v (pv 1) rfl) (se_lst (sa_cons (se_isP (tab := [("RillError", false), ("TooMany", false), ("There", false), ("NoTie", false), ("NoSpring", false), ("NoMouth", false), ("Apart", false), ("SamePlace", false), ("NoText", false), ("NoRow", true), ("NoPlace", false), ("NoFall", false), ("NoPast", false)]) T.tb_NoRow EK hz hf hp (pv 0) (by rfl) T.b_isinstance (CA.own (by rfl) T.g_NoRow rfl) rfl) (sa_cons (se_isP (tab := [("RillError", false), ("TooMany", false), ("There", false), ("NoTie", false), ("NoSpring", false), ("NoMouth", false), ("Apart", false), ("SamePlace", false), ("NoText", false), ("NoRow", false), ("NoPlace", true), ("NoFall", false), ("NoPast", false)]) T.tb_NoPlace EK hz hf hp (pv 0) (by rfl) T.b_isinstance (CA.own (by rfl) T.g_NoPlace rfl) rfl) (sa_cons (se_isP (tab := [("RillError", false), ("TooMany", false), ("There", false), ("NoTie", false), ("NoSpring", false), ("NoMouth", false), ("Apart", false), ("SamePlace", false), ("NoText", false), ("NoRow", false), ("NoPlace", false), ("NoFall", true), ("NoPast", false)]) T.tb_NoFall EK hz hf hp (pv 0) (by rfl) T.b_isinstance (CA.own (by rfl) T.g_NoFall rfl) rfl) (sa_cons (se_isP (tab := [("RillError", false), ("TooMany", false), ("There", false), ("NoTie", false), ("NoSpring", false), ("NoMouth", false), ("Apart", false), ("SamePlace", false), ("NoText", false), ("NoRow", false), ("NoPlace", false), ("NoFall", false), ("NoPast", true)]) T.tb_NoPast EK hz hf hp (pv 0) (by rfl) T.b_isinstance (CA.own (by rfl) T.g_NoPast rfl) rfl) sa_nil)))))) rfl)
      (sss_one (ss_ret (Me := []) (se_bin op_addF od_add (se_v (pv 1) rfl) (se_lst (sa_cons (se_isP (tab := [("RillError", true), ("TooMany", true), ("There", true), ("NoTie", true), ("NoSpring", true), ("NoMouth", true), ("Apart", true), ("SamePlace", true), ("NoText", true), ("NoRow", true), ("NoPlace", true), ("NoFall", true), ("NoPast", true)]) T.tb_RillError EK hz hf hp (pv 0) (by rfl) T.b_isinstance (CA.own (by rfl) T.g_RillError rfl) rfl) (sa_cons (se_isP (tab := [("RillError", true), ("TooMany", true), ("There", true), ("NoTie", true), ("NoSpring", true), ("NoMouth", true), ("Apart", true), ("SamePlace", true), ("NoText", true), ("NoRow", true), ("NoPlace", true), ("NoFall", true), ("NoPast", true)]) T.tb_ValueError EK hz hf hp (pv 0) (by rfl) T.b_isinstance (CA.blt (by rfl) T.b_ValueError (by decide +kernel) (by decide) rfl) rfl) sa_nil)))))))))
theorem gh_l_kinds {P : Program} {w : World} {K : PySem.W.Frag} {mg : Str → Option Value} {base : Heap} {f : Addr} {fd : FuncData} {C_Apart C_NoFall C_NoMouth C_NoPast C_NoPlace C_NoRow C_NoSpring C_NoText C_NoTie C_RillError C_SamePlace C_There C_TooMany : Addr} (T : TX K mg C_Apart C_NoFall C_NoMouth C_NoPast C_NoPlace C_NoRow C_NoSpring C_NoText C_NoTie C_RillError C_SamePlace C_There C_TooMany) (F : Fun K "_law_kinds" "_law_kinds" s_l_kinds f fd) (hm : mg "_law_kinds" = some (.ref f)) : FnBH P w K mg base 1 "_law_kinds" "e" .fz S_l_kinds :=
  ⟨f, fd, fn_defH (lv := 0) F sc_l_kinds rfl (by first | exact .inl rfl | exact .inr rfl) (noqX (by decide)) (bh_l_kinds T) m_l_kinds, hm, F.kp, F.binds fun _ _ _ _ _ _ us hl => match us, hl with | [_], _ => rfl⟩
abbrev s_l_apart : Stmt := topS 34
abbrev N_l_apart : List Str := ["some", "k", "other"]
abbrev k_l_apart : List SK := [.v, .v, .v]
theorem sc_l_apart : FnScope N_l_apart [] (defScope s_l_apart) := ⟨rfl, rfl, rfl, by decide +kernel, rfl, by decide +kernel, by decide +kernel⟩
theorem b_l_apart {P : Program} {w : World} {K : PySem.W.Frag} {mg : Str → Option Value} {base : Heap} {C_Apart C_NoFall C_NoMouth C_NoPast C_NoPlace C_NoRow C_NoSpring C_NoText C_NoTie C_RillError C_SamePlace C_There C_TooMany : Addr} (T : TX K mg C_Apart C_NoFall C_NoMouth C_NoPast C_NoPlace C_NoRow C_NoSpring C_NoText C_NoTie C_RillError C_SamePlace C_There C_TooMany) (G_l_kinds : FnB P w K mg base 1 "_law_kinds" ["e"] [.fz] .fz S_l_kinds) {f : Addr} (cdv : Value) (A : Around) (outer : List Env) (s : Shared) (H : Hp) (E : XK) (hr : Room 1 (A.deeper (envOfC "_law_apart" (defScope s_l_apart) s.heap.objs.size f cdv))) :
    SSs (cxOf CX0 P w K mg base N_l_apart "_law_apart" (defScope s_l_apart) f cdv A outer s H E).nox k_l_apart [] .fz (defBody s_l_apart) (wb_l_apart S_l_kinds) :=
  (sss_cons (ss_set (Me := []) (i := 0) sc_l_apart.nd rfl (by first | exact Or.inl rfl | exact Or.inr rfl) (SE.nf (se_lst (sa_cons (se_exc PySem.F.excBase_ValueError T.x_TooMany T.g_TooMany T.k_TooMany ⟨T.ek_TooMany, ⟨T.ga_TooMany, T.gg_TooMany, T.bs_TooMany, T.hd_TooMany, T.gc_TooMany, T.sp0, T.tk0, T.mo_TooMany⟩, T.et_TooMany⟩ (by rfl) se_str) (sa_cons (se_exc PySem.F.excBase_ValueError T.x_There T.g_There T.k_There ⟨T.ek_There, ⟨T.ga_There, T.gg_There, T.bs_There, T.hd_There, T.gc_There, T.sp0, T.tk0, T.mo_There⟩, T.et_There⟩ (by rfl) se_str) (sa_cons (se_exc PySem.F.excBase_ValueError T.x_NoTie T.g_NoTie T.k_NoTie ⟨T.ek_NoTie, ⟨T.ga_NoTie, T.gg_NoTie, T.bs_NoTie, T.hd_NoTie, T.gc_NoTie, T.sp0, T.tk0, T.mo_NoTie⟩, T.et_NoTie⟩ (by rfl) se_str) (sa_cons (se_exc PySem.F.excBase_ValueError T.x_NoSpring T.g_NoSpring T.k_NoSpring ⟨T.ek_NoSpring, ⟨T.ga_NoSpring, T.gg_NoSpring, T.bs_NoSpring, T.hd_NoSpring, T.gc_NoSpring, T.sp0, T.tk0, T.mo_NoSpring⟩, T.et_NoSpring⟩ (by rfl) se_str) (sa_cons (se_exc PySem.F.excBase_ValueError T.x_NoMouth T.g_NoMouth T.k_NoMouth ⟨T.ek_NoMouth, ⟨T.ga_NoMouth, T.gg_NoMouth, T.bs_NoMouth, T.hd_NoMouth, T.gc_NoMouth, T.sp0, T.tk0, T.mo_NoMouth⟩, T.et_NoMouth⟩ (by rfl) se_str) (sa_cons (se_exc PySem.F.excBase_ValueError T.x_Apart T.g_Apart T.k_Apart ⟨T.ek_Apart, ⟨T.ga_Apart, T.gg_Apart, T.bs_Apart, T.hd_Apart, T.gc_Apart, T.sp0, T.tk0, T.mo_Apart⟩, T.et_Apart⟩ (by rfl) se_str) (sa_cons (se_exc PySem.F.excBase_ValueError T.x_SamePlace T.g_SamePlace T.k_SamePlace ⟨T.ek_SamePlace, ⟨T.ga_SamePlace, T.gg_SamePlace, T.bs_SamePlace, T.hd_SamePlace, T.gc_SamePlace, T.sp0, T.tk0, T.mo_SamePlace⟩, T.et_SamePlace⟩ (by rfl) se_str) sa_nil))))))))) rfl)
      (sss_cons (ss_set (Me := []) (i := 0) sc_l_apart.nd rfl (by first | exact Or.inl rfl | exact Or.inr rfl) (se_bin op_addF od_add (se_v (pv 0) rfl) (se_lst (sa_cons (se_exc PySem.F.excBase_ValueError T.x_NoText T.g_NoText T.k_NoText ⟨T.ek_NoText, ⟨T.ga_NoText, T.gg_NoText, T.bs_NoText, T.hd_NoText, T.gc_NoText, T.sp0, T.tk0, T.mo_NoText⟩, T.et_NoText⟩ (by rfl) se_str) (sa_cons (se_exc PySem.F.excBase_ValueError T.x_NoRow T.g_NoRow T.k_NoRow ⟨T.ek_NoRow, ⟨T.ga_NoRow, T.gg_NoRow, T.bs_NoRow, T.hd_NoRow, T.gc_NoRow, T.sp0, T.tk0, T.mo_NoRow⟩, T.et_NoRow⟩ (by rfl) se_str) (sa_cons (se_exc PySem.F.excBase_ValueError T.x_NoPlace T.g_NoPlace T.k_NoPlace ⟨T.ek_NoPlace, ⟨T.ga_NoPlace, T.gg_NoPlace, T.bs_NoPlace, T.hd_NoPlace, T.gc_NoPlace, T.sp0, T.tk0, T.mo_NoPlace⟩, T.et_NoPlace⟩ (by rfl) se_str) (sa_cons (se_exc PySem.F.excBase_ValueError T.x_NoFall T.g_NoFall T.k_NoFall ⟨T.ek_NoFall, ⟨T.ga_NoFall, T.gg_NoFall, T.bs_NoFall, T.hd_NoFall, T.gc_NoFall, T.sp0, T.tk0, T.mo_NoFall⟩, T.et_NoFall⟩ (by rfl) se_str) (sa_cons (se_exc PySem.F.excBase_ValueError T.x_NoPast T.g_NoPast T.k_NoPast ⟨T.ek_NoPast, ⟨T.ga_NoPast, T.gg_NoPast, T.bs_NoPast, T.hd_NoPast, T.gc_NoPast, T.sp0, T.tk0, T.mo_NoPast⟩, T.et_NoPast⟩ (by rfl) se_str) sa_nil))))))) rfl)
      (sss_cons (ss_for (Me := []) PassesOwn.never rfl (si_rg1 (by rfl) T.b_range se_int) (sg_name (pg_name (i := 1) sc_l_apart.nd rfl (by first | exact Or.inl rfl | exact Or.inr rfl)) rfl) (sss_one (ss_if (Me := []) (st_cmp (op_neD hr.units) od_ne (se_fn G_l_kinds hr (by rfl) (sa_cons (se_ix ix_seq od_ix (se_v (pv 0) rfl) (se_v (pv 1) rfl) (fun _ _ => rfl)) sa_nil)) (se_bin op_addF od_add (se_lc rfl sc_l_apart.nd (si_rg1 (by rfl) T.b_range se_int) (own := [("other", 2)]) (blkOk_by (by kernel_rfl)) (fun _ _ _ _ _ => (sg_name (pg_name (i := 2) sc_l_apart.nd rfl (by first | exact Or.inl rfl | exact Or.inr rfl)) rfl)) (fun _ _ _ _ _ => sp_nil) (fun _ _ _ _ _ => (se_cmp (op_eqD hr.units) od_eq (se_v (pv 2) rfl) (se_v (pv 1) rfl) (nomark _)))) (se_lst (sa_cons se_bl (sa_cons se_bl sa_nil)))) (nomark _)) (sss_one (ss_ret (Me := []) se_bl)) sss_nil)))
      (sss_one (ss_ret (Me := []) (se_cmp (op_eqD hr.units) od_eq (se_fn G_l_kinds hr (by rfl) (sa_cons (se_exc PySem.F.excBase_ValueError T.x_RillError T.g_RillError T.k_RillError ⟨T.ek_RillError, ⟨T.ga_RillError, T.gg_RillError, T.bs_RillError, T.hd_RillError, T.gc_RillError, T.sp0, T.tk0, T.mo_RillError⟩, T.et_RillError⟩ (by rfl) se_str) sa_nil)) (se_bin op_addF od_add (se_bin op_repR od_rep (se_lst (sa_cons se_bl sa_nil)) se_int) (se_lst (sa_cons se_bl (sa_cons se_bl sa_nil)))) (nomark _)))))))
theorem g_l_apart {P : Program} {w : World} {K : PySem.W.Frag} {mg : Str → Option Value} {base : Heap} {f : Addr} {fd : FuncData} {C_Apart C_NoFall C_NoMouth C_NoPast C_NoPlace C_NoRow C_NoSpring C_NoText C_NoTie C_RillError C_SamePlace C_There C_TooMany : Addr} (T : TX K mg C_Apart C_NoFall C_NoMouth C_NoPast C_NoPlace C_NoRow C_NoSpring C_NoText C_NoTie C_RillError C_SamePlace C_There C_TooMany) (G_l_kinds : FnB P w K mg base 1 "_law_kinds" ["e"] [.fz] .fz S_l_kinds) (F : Fun K "_law_apart" "_law_apart" s_l_apart f fd) (hm : mg "_law_apart" = some (.ref f)) : FnB P w K mg base 2 "_law_apart" [] [] .fz S_l_apart :=
  ⟨f, fd, fn_def [] F sc_l_apart rfl rfl rfl (by first | exact .inl rfl | exact .inr rfl) (by intro i; match i with | i => exact noq (by decide) i) (b_l_apart T G_l_kinds) m_l_apart, hm, F.kp, F.binds fun _ _ _ _ _ _ us hl => match us, hl with | [], _ => rfl⟩
abbrev s_l_pool : Stmt := topS 24
abbrev N_l_pool : List Str := ["cell"]
abbrev k_l_pool : List SK := [.r]
theorem sc_l_pool : FnScope N_l_pool ["cell"] (defScope s_l_pool) := ⟨rfl, rfl, rfl, by decide +kernel, rfl, by decide +kernel, by decide +kernel⟩
theorem b_l_pool {P : Program} {w : World} {K : PySem.W.Frag} {mg : Str → Option Value} {base : Heap} {C_Apart C_NoFall C_NoMouth C_NoPast C_NoPlace C_NoRow C_NoSpring C_NoText C_NoTie C_RillError C_SamePlace C_There C_TooMany : Addr} (T : TX K mg C_Apart C_NoFall C_NoMouth C_NoPast C_NoPlace C_NoRow C_NoSpring C_NoText C_NoTie C_RillError C_SamePlace C_There C_TooMany) {f : Addr} (cdv : Value) (A : Around) (outer : List Env) (s : Shared) (H : Hp) (E : XK) (hr : Room 0 (A.deeper (envOfC "_law_pool" (defScope s_l_pool) s.heap.objs.size f cdv))) :
    SSs (cxOf CX0 P w K mg base N_l_pool "_law_pool" (defScope s_l_pool) f cdv A outer s H E).nox k_l_pool [] .nw (defBody s_l_pool) (wb_l_pool) :=
  (sss_one (ss_retw (Me := []) (se_lst (sa_cons (se_blt (call_max2 rfl) bd_max2 (by rfl) T.b_max bt_max (sa_cons se_int (sa_cons (se_bin op_sub od_sub (se_r (pv 0) rfl) (se_bin op_pow od_pow se_int se_int)) sa_nil))) (sa_cons (se_bin op_mod od_mod (se_r (pv 0) rfl) (se_bin op_pow od_pow se_int se_int)) (sa_cons se_int sa_nil))))))
theorem g_l_pool {P : Program} {w : World} {K : PySem.W.Frag} {mg : Str → Option Value} {base : Heap} {f : Addr} {fd : FuncData} {C_Apart C_NoFall C_NoMouth C_NoPast C_NoPlace C_NoRow C_NoSpring C_NoText C_NoTie C_RillError C_SamePlace C_There C_TooMany : Addr} (T : TX K mg C_Apart C_NoFall C_NoMouth C_NoPast C_NoPlace C_NoRow C_NoSpring C_NoText C_NoTie C_RillError C_SamePlace C_There C_TooMany) (F : Fun K "_law_pool" "_law_pool" s_l_pool f fd) (hm : mg "_law_pool" = some (.ref f)) : FnB P w K mg base 1 "_law_pool" ["cell"] [.rd] .nw S_l_pool :=
  ⟨f, fd, fn_def [.rd] F sc_l_pool rfl rfl rfl (by first | exact .inl rfl | exact .inr rfl) (by intro i; match i with | i => exact noq (by decide) i) (b_l_pool T) m_l_pool, hm, F.kp, F.binds fun _ _ _ _ _ _ us hl => match us, hl with | [_], _ => rfl⟩
abbrev s_l_next : Stmt := topS 25
abbrev N_l_next : List Str := ["pool", "base", "digit", "mixed", "stir"]
abbrev k_l_next : List SK := [.p, .r, .v, .v, .v]
theorem sc_l_next : FnScope N_l_next ["pool", "base"] (defScope s_l_next) := ⟨rfl, rfl, rfl, by decide +kernel, rfl, by decide +kernel, by decide +kernel⟩
theorem b_l_next {P : Program} {w : World} {K : PySem.W.Frag} {mg : Str → Option Value} {base : Heap} {C_Apart C_NoFall C_NoMouth C_NoPast C_NoPlace C_NoRow C_NoSpring C_NoText C_NoTie C_RillError C_SamePlace C_There C_TooMany : Addr} (T : TX K mg C_Apart C_NoFall C_NoMouth C_NoPast C_NoPlace C_NoRow C_NoSpring C_NoText C_NoTie C_RillError C_SamePlace C_There C_TooMany) {f : Addr} (cdv : Value) (A : Around) (outer : List Env) (s : Shared) (H : Hp) (E : XK) (hr : Room 0 (A.deeper (envOfC "_law_next" (defScope s_l_next) s.heap.objs.size f cdv))) :
    SSs (cxOf CX0 P w K mg base N_l_next "_law_next" (defScope s_l_next) f cdv A outer s H E).nox k_l_next [] .fz (defBody s_l_next) (wb_l_next) :=
  (sss_cons (ss_if (Me := []) (st_cmp op_gt od_gt (se_plix (pv 0) rfl) se_int (nomark _)) (sss_cons (ss_set (Me := []) (i := 2) sc_l_next.nd rfl (by first | exact Or.inl rfl | exact Or.inr rfl) (se_bin op_mod od_mod (se_plix (pv 0) rfl) (se_r (pv 1) rfl)) rfl)
      (sss_cons (ss_plset (Me := []) (pv 0) (se_bin op_fdiv od_fdiv (se_plix (pv 0) rfl) (se_r (pv 1) rfl)) rfl)
      (sss_one (ss_ret (Me := []) (se_v (pv 2) rfl))))) sss_nil)
      (sss_cons (ss_plset (Me := []) (pv 0) (se_bin op_addF od_add (se_plix (pv 0) rfl) se_int) rfl)
      (sss_cons (ss_set (Me := []) (i := 3) sc_l_next.nd rfl (by first | exact Or.inl rfl | exact Or.inr rfl) (se_bin op_mod od_mod (se_bin op_addF od_add (se_plix (pv 0) rfl) (se_bin op_mul od_mulI se_int (se_plix (pv 0) rfl))) se_int) rfl)
      (sss_cons (ss_set (Me := []) (i := 4) sc_l_next.nd rfl (by first | exact Or.inl rfl | exact Or.inr rfl) (se_bin op_mod od_mod (se_bin op_mul od_mulI (se_bin op_addF od_add (se_v (pv 3) rfl) se_int) (se_bin op_addF od_add (se_v (pv 3) rfl) se_int)) se_int) rfl)
      (sss_one (ss_ret (Me := []) (se_bin op_mod od_mod (se_bin op_fdiv od_fdiv (se_bin op_mod od_mod (se_bin op_mul od_mulI (se_v (pv 4) rfl) (se_v (pv 4) rfl)) se_int) se_int) (se_r (pv 1) rfl))))))))
theorem g_l_next {P : Program} {w : World} {K : PySem.W.Frag} {mg : Str → Option Value} {base : Heap} {f : Addr} {fd : FuncData} {C_Apart C_NoFall C_NoMouth C_NoPast C_NoPlace C_NoRow C_NoSpring C_NoText C_NoTie C_RillError C_SamePlace C_There C_TooMany : Addr} (T : TX K mg C_Apart C_NoFall C_NoMouth C_NoPast C_NoPlace C_NoRow C_NoSpring C_NoText C_NoTie C_RillError C_SamePlace C_There C_TooMany) (F : Fun K "_law_next" "_law_next" s_l_next f fd) (hm : mg "_law_next" = some (.ref f)) : FnB P w K mg base 1 "_law_next" ["pool", "base"] [.pl, .rd] .fz S_l_next :=
  ⟨f, fd, fn_def [.pl, .rd] F sc_l_next rfl rfl rfl (by first | exact .inl rfl | exact .inr rfl) (by intro i; match i with | i => exact noq (by decide) i) (b_l_next T) m_l_next, hm, F.kp, F.binds fun _ _ _ _ _ _ us hl => match us, hl with | [_, _], _ => rfl⟩
abbrev s_l_web : Stmt := topS 26
abbrev N_l_web : List Str := ["pool", "most", "many", "way", "lack", "cut", "roots", "some", "a", "b", "chance", "lucky", "place"]
abbrev k_l_web : List SK := [.p, .r, .v, .v, .v, .v, .v, .o, .v, .v, .v, .v, .v]
theorem sc_l_web : FnScope N_l_web ["pool", "most"] (defScope s_l_web) := ⟨rfl, rfl, rfl, by decide +kernel, rfl, by decide +kernel, by decide +kernel⟩
theorem b_l_web {P : Program} {w : World} {K : PySem.W.Frag} {mg : Str → Option Value} {base : Heap} {C_Apart C_NoFall C_NoMouth C_NoPast C_NoPlace C_NoRow C_NoSpring C_NoText C_NoTie C_RillError C_SamePlace C_There C_TooMany : Addr} (T : TX K mg C_Apart C_NoFall C_NoMouth C_NoPast C_NoPlace C_NoRow C_NoSpring C_NoText C_NoTie C_RillError C_SamePlace C_There C_TooMany) (G_l_next : FnB P w K mg base 1 "_law_next" ["pool", "base"] [.pl, .rd] .fz S_l_next) {f : Addr} (cdv : Value) (A : Around) (outer : List Env) (s : Shared) (H : Hp) (E : XK) (hr : Room 1 (A.deeper (envOfC "_law_web" (defScope s_l_web) s.heap.objs.size f cdv))) :
    SSs (cxOf CX0 P w K mg base N_l_web "_law_web" (defScope s_l_web) f cdv A outer s H E).nox k_l_web [7] .fz (defBody s_l_web) (wb_l_web S_l_next) :=
  (sss_cons (ss_set (Me := []) (i := 2) sc_l_web.nd rfl (by first | exact Or.inl rfl | exact Or.inr rfl) (se_bin op_addF od_add se_int (se_fn G_l_next hr (by rfl) (sa_cons (se_p (pv 0) rfl) (sa_cons (se_r (pv 1) rfl) sa_nil)))) rfl)
      (sss_cons (ss_set (Me := []) (i := 3) sc_l_web.nd rfl (by first | exact Or.inl rfl | exact Or.inr rfl) (se_fn G_l_next hr (by rfl) (sa_cons (se_p (pv 0) rfl) (sa_cons se_int sa_nil))) rfl)
      (sss_cons (ss_set (Me := []) (i := 4) sc_l_web.nd rfl (by first | exact Or.inl rfl | exact Or.inr rfl) (se_bin op_addF od_add se_int (se_fn G_l_next hr (by rfl) (sa_cons (se_p (pv 0) rfl) (sa_cons se_int sa_nil)))) rfl)
      (sss_cons (ss_set (Me := []) (i := 5) sc_l_web.nd rfl (by first | exact Or.inl rfl | exact Or.inr rfl) (se_fn G_l_next hr (by rfl) (sa_cons (se_p (pv 0) rfl) (sa_cons (se_v (pv 2) rfl) sa_nil))) rfl)
      (sss_cons (ss_lcV (M := []) (i := 6) rfl sc_l_web.nd rfl rfl (sw_true rfl rfl rfl (by decide +kernel)) (si_rg1 (by rfl) T.b_range (se_v (pv 2) rfl)) (own := [("place", 12)]) (blkOk_by (by kernel_rfl)) (fun _ _ _ _ _ => (sg_name (pg_name (i := 12) sc_l_web.nd rfl (by first | exact Or.inl rfl | exact Or.inr rfl)) rfl)) (fun _ _ _ _ _ => sp_nil) (fun _ _ _ _ _ => (se_fn G_l_next hr (by rfl) (sa_cons (se_p (pv 0) rfl) (sa_cons (se_blt (call_max2 rfl) bd_max2 (by rfl) T.b_max bt_max (sa_cons se_int (sa_cons (se_v (pv 12) rfl) sa_nil))) sa_nil)))))
      (sss_cons (ss_setO (Me := []) (i := 7) sc_l_web.nd rfl (by first | exact Or.inl rfl | exact Or.inr rfl) (se_lst sa_nil) rfl)
      (sss_cons (ss_for (Me := []) PassesOwn.never rfl (si_rg1 (by rfl) T.b_range (se_v (pv 2) rfl)) (sg_name (pg_name (i := 8) sc_l_web.nd rfl (by first | exact Or.inl rfl | exact Or.inr rfl)) rfl) (sss_one (ss_for (Me := []) PassesOwn.never rfl (si_rg2 (by rfl) T.b_range (se_bin op_addF od_add (se_v (pv 8) rfl) se_int) (se_v (pv 2) rfl)) (sg_name (pg_name (i := 9) sc_l_web.nd rfl (by first | exact Or.inl rfl | exact Or.inr rfl)) rfl) (sss_cons (ss_set (Me := []) (i := 10) sc_l_web.nd rfl (by first | exact Or.inl rfl | exact Or.inr rfl) (se_fn G_l_next hr (by rfl) (sa_cons (se_p (pv 0) rfl) (sa_cons se_int sa_nil))) rfl)
      (sss_cons (ss_set (Me := []) (i := 11) sc_l_web.nd rfl (by first | exact Or.inl rfl | exact Or.inr rfl) (SE.nf (se_lst (sa_cons (se_or (se_cmp (op_eqD hr.units) od_eq (se_bin op_addF od_add (se_v (pv 8) rfl) se_int) (se_v (pv 9) rfl) (nomark _)) (se_one (se_and (se_cmp (op_eqD hr.units) od_eq (se_v (pv 8) rfl) se_int (nomark _)) (se_one (se_cmp (op_eqD hr.units) od_eq (se_bin op_addF od_add (se_v (pv 9) rfl) se_int) (se_v (pv 2) rfl) (nomark _)))))) (sa_cons (se_cmp (op_ltF hr.units0) od_lt (se_v (pv 10) rfl) (se_bin op_addF od_add (se_v (pv 4) rfl) se_int) (nomark _)) (sa_cons (se_cmp (op_eqD hr.units) od_eq (se_v (pv 10) rfl) se_int (nomark _)) (sa_cons (se_cmp (op_eqD hr.units) od_eq (se_ix ix_seq od_ix (se_v (pv 6) rfl) (se_v (pv 9) rfl) (fun _ _ => rfl)) (se_v (pv 8) rfl) (nomark _)) sa_nil)))))) rfl)
      (sss_cons (ss_set (Me := []) (i := 11) sc_l_web.nd rfl (by first | exact Or.inl rfl | exact Or.inr rfl) (se_bin op_addF od_add (se_v (pv 11) rfl) (se_lst (sa_cons (se_and (se_cmp (op_eqD hr.units) od_eq (se_cmp (op_ltF hr.units0) od_lt (se_v (pv 8) rfl) (se_v (pv 5) rfl) (nomark _)) (se_cmp (op_ltF hr.units0) od_lt (se_v (pv 9) rfl) (se_v (pv 5) rfl) (nomark _)) (nomark _)) (se_one (se_cmp (op_ltF hr.units0) od_lt (se_v (pv 10) rfl) se_int (nomark _)))) (sa_cons (se_cmp (op_ltF hr.units0) od_lt (se_v (pv 10) rfl) (se_v (pv 4) rfl) (nomark _)) (sa_cons (se_or (se_cmp (op_ltF hr.units0) od_lt (se_v (pv 10) rfl) se_int (nomark _)) (se_one (se_cmp (op_eqD hr.units) od_eq (se_ix ix_seq od_ix (se_v (pv 6) rfl) (se_v (pv 9) rfl) (fun _ _ => rfl)) (se_v (pv 8) rfl) (nomark _)))) sa_nil))))) rfl)
      (sss_one (ss_if (Me := []) (SW.st (sw_and (st_val (se_ix ix_seq od_ix (se_v (pv 11) rfl) (se_v (pv 3) rfl) (fun _ _ => rfl))) (sw_and1 (st_cmp (op_ltF hr.units0) od_lt (se_blt call_len_seq bd_len (by rfl) T.b_len bt_len (sa_cons (se_o (pv 7) rfl) sa_nil)) se_int (nomark _))))) (sss_one (ss_expr (Me := [7]) (se_mut (Ma := []) PySem.F.slot_list_append PySem.F.type_list_append mt_append md_append (pv 7) (sa_cons (se_tup (sa_cons (se_v (pv 8) rfl) (sa_cons (se_v (pv 9) rfl) sa_nil))) sa_nil) (Or.inl rfl)))) sss_nil))))))))
      (sss_one (ss_ret (Me := []) (se_tup (sa_cons (se_v (pv 2) rfl) (sa_cons (se_bty call_tupleM bd_tup (by rfl) T.b_tuple bt_tuple (sa_cons (se_o (pv 7) rfl) sa_nil)) sa_nil))))))))))))
theorem g_l_web {P : Program} {w : World} {K : PySem.W.Frag} {mg : Str → Option Value} {base : Heap} {f : Addr} {fd : FuncData} {C_Apart C_NoFall C_NoMouth C_NoPast C_NoPlace C_NoRow C_NoSpring C_NoText C_NoTie C_RillError C_SamePlace C_There C_TooMany : Addr} (T : TX K mg C_Apart C_NoFall C_NoMouth C_NoPast C_NoPlace C_NoRow C_NoSpring C_NoText C_NoTie C_RillError C_SamePlace C_There C_TooMany) (G_l_next : FnB P w K mg base 1 "_law_next" ["pool", "base"] [.pl, .rd] .fz S_l_next) (F : Fun K "_law_web" "_law_web" s_l_web f fd) (hm : mg "_law_web" = some (.ref f)) : FnB P w K mg base 2 "_law_web" ["pool", "most"] [.pl, .rd] .fz S_l_web :=
  ⟨f, fd, fn_def [.pl, .rd] F sc_l_web rfl rfl rfl (by first | exact .inl rfl | exact .inr rfl) (by intro i; match i with | i => exact noq (by decide) i) (b_l_web T G_l_next) m_l_web, hm, F.kp, F.binds fun _ _ _ _ _ _ us hl => match us, hl with | [_, _], _ => rfl⟩
abbrev s_tie_of : Stmt := topS 16
abbrev N_tie_of : List Str := ["a", "b"]
abbrev k_tie_of : List SK := [.r, .r]
theorem sc_tie_of : FnScope N_tie_of ["a", "b"] (defScope s_tie_of) := ⟨rfl, rfl, rfl, by decide +kernel, rfl, by decide +kernel, by decide +kernel⟩
theorem b_tie_of {P : Program} {w : World} {K : PySem.W.Frag} {mg : Str → Option Value} {base : Heap} {C_Apart C_NoFall C_NoMouth C_NoPast C_NoPlace C_NoRow C_NoSpring C_NoText C_NoTie C_RillError C_SamePlace C_There C_TooMany : Addr} (T : TX K mg C_Apart C_NoFall C_NoMouth C_NoPast C_NoPlace C_NoRow C_NoSpring C_NoText C_NoTie C_RillError C_SamePlace C_There C_TooMany) {f : Addr} (cdv : Value) (A : Around) (outer : List Env) (s : Shared) (H : Hp) (E : XK) (hr : Room 0 (A.deeper (envOfC "tie_of" (defScope s_tie_of) s.heap.objs.size f cdv))) :
    SSs (cxOf CX0 P w K mg base N_tie_of "tie_of" (defScope s_tie_of) f cdv A outer s H E).nox k_tie_of [] .fz (defBody s_tie_of) (wb_tie_of) :=
  (sss_one (ss_ret (Me := []) (se_tup (sa_cons (se_blt (call_min2 rfl) bd_min2 (by rfl) T.b_min bt_min (sa_cons (se_r (pv 0) rfl) (sa_cons (se_r (pv 1) rfl) sa_nil))) (sa_cons (se_blt (call_max2 rfl) bd_max2 (by rfl) T.b_max bt_max (sa_cons (se_r (pv 0) rfl) (sa_cons (se_r (pv 1) rfl) sa_nil))) sa_nil)))))
theorem g_tie_of {P : Program} {w : World} {K : PySem.W.Frag} {mg : Str → Option Value} {base : Heap} {f : Addr} {fd : FuncData} {C_Apart C_NoFall C_NoMouth C_NoPast C_NoPlace C_NoRow C_NoSpring C_NoText C_NoTie C_RillError C_SamePlace C_There C_TooMany : Addr} (T : TX K mg C_Apart C_NoFall C_NoMouth C_NoPast C_NoPlace C_NoRow C_NoSpring C_NoText C_NoTie C_RillError C_SamePlace C_There C_TooMany) (F : Fun K "tie_of" "tie_of" s_tie_of f fd) (hm : mg "tie_of" = some (.ref f)) : FnB P w K mg base 1 "tie_of" ["a", "b"] [.rd, .rd] .fz S_tie_of :=
  ⟨f, fd, fn_def [.rd, .rd] F sc_tie_of rfl rfl rfl (by first | exact .inl rfl | exact .inr rfl) (by intro i; match i with | i => exact noq (by decide) i) (b_tie_of T) m_tie_of, hm, F.kp, F.binds fun _ _ _ _ _ _ us hl => match us, hl with | [_, _], _ => rfl⟩
abbrev s_drawn_place : Stmt := topS 18
abbrev N_drawn_place : List Str := ["place", "a", "b"]
abbrev k_drawn_place : List SK := [.r, .v, .r]
theorem sc_drawn_place : FnScope N_drawn_place ["place", "a", "b"] (defScope s_drawn_place) := ⟨rfl, rfl, rfl, by decide +kernel, rfl, by decide +kernel, by decide +kernel⟩
theorem b_drawn_place {P : Program} {w : World} {K : PySem.W.Frag} {mg : Str → Option Value} {base : Heap} {C_Apart C_NoFall C_NoMouth C_NoPast C_NoPlace C_NoRow C_NoSpring C_NoText C_NoTie C_RillError C_SamePlace C_There C_TooMany : Addr} (T : TX K mg C_Apart C_NoFall C_NoMouth C_NoPast C_NoPlace C_NoRow C_NoSpring C_NoText C_NoTie C_RillError C_SamePlace C_There C_TooMany) {f : Addr} (cdv : Value) (A : Around) (outer : List Env) (s : Shared) (H : Hp) (E : XK) (hr : Room 0 (A.deeper (envOfC "drawn_place" (defScope s_drawn_place) s.heap.objs.size f cdv))) :
    SSs (cxOf CX0 P w K mg base N_drawn_place "drawn_place" (defScope s_drawn_place) f cdv A outer s H E).nox k_drawn_place [] .fz (defBody s_drawn_place) (wb_drawn_place) :=
  (sss_cons (ss_if (Me := []) (st_cmp (op_eqD hr.units) od_eq (se_r (pv 0) rfl) (se_r (pv 2) rfl) (nomark _)) (sss_one (ss_ret (Me := []) (se_v (pv 1) rfl))) sss_nil)
      (sss_one (ss_ret (Me := []) (se_bin op_sub od_sub (se_r (pv 0) rfl) (se_bty call_int1 bd_int (by rfl) T.b_int bt_int (sa_cons (se_cmp op_gt od_gt (se_r (pv 0) rfl) (se_r (pv 2) rfl) (nomark _)) sa_nil))))))
theorem g_drawn_place {P : Program} {w : World} {K : PySem.W.Frag} {mg : Str → Option Value} {base : Heap} {f : Addr} {fd : FuncData} {C_Apart C_NoFall C_NoMouth C_NoPast C_NoPlace C_NoRow C_NoSpring C_NoText C_NoTie C_RillError C_SamePlace C_There C_TooMany : Addr} (T : TX K mg C_Apart C_NoFall C_NoMouth C_NoPast C_NoPlace C_NoRow C_NoSpring C_NoText C_NoTie C_RillError C_SamePlace C_There C_TooMany) (F : Fun K "drawn_place" "drawn_place" s_drawn_place f fd) (hm : mg "drawn_place" = some (.ref f)) : FnB P w K mg base 1 "drawn_place" ["place", "a", "b"] [.rd, .fz, .rd] .fz S_drawn_place :=
  ⟨f, fd, fn_def [.rd, .fz, .rd] F sc_drawn_place rfl rfl rfl (by first | exact .inl rfl | exact .inr rfl) (by intro i; match i with | i => exact noq (by decide) i) (b_drawn_place T) m_drawn_place, hm, F.kp, F.binds fun _ _ _ _ _ _ us hl => match us, hl with | [_, _, _], _ => rfl⟩
abbrev s_drawn : Stmt := topS 19
abbrev N_drawn : List Str := ["web", "a", "b", "found", "one", "other", "tie"]
abbrev k_drawn : List SK := [.r, .v, .r, .o, .v, .v, .v]
theorem sc_drawn : FnScope N_drawn ["web", "a", "b"] (defScope s_drawn) := ⟨rfl, rfl, rfl, by decide +kernel, rfl, by decide +kernel, by decide +kernel⟩
theorem b_drawn {P : Program} {w : World} {K : PySem.W.Frag} {mg : Str → Option Value} {base : Heap} {C_Apart C_NoFall C_NoMouth C_NoPast C_NoPlace C_NoRow C_NoSpring C_NoText C_NoTie C_RillError C_SamePlace C_There C_TooMany : Addr} (T : TX K mg C_Apart C_NoFall C_NoMouth C_NoPast C_NoPlace C_NoRow C_NoSpring C_NoText C_NoTie C_RillError C_SamePlace C_There C_TooMany) (G_tie_of : FnB P w K mg base 1 "tie_of" ["a", "b"] [.rd, .rd] .fz S_tie_of) (G_drawn_place : FnB P w K mg base 1 "drawn_place" ["place", "a", "b"] [.rd, .fz, .rd] .fz S_drawn_place) {f : Addr} (cdv : Value) (A : Around) (outer : List Env) (s : Shared) (H : Hp) (E : XK) (hr : Room 1 (A.deeper (envOfC "drawn" (defScope s_drawn) s.heap.objs.size f cdv))) :
    SSs (cxOf CX0 P w K mg base N_drawn "drawn" (defScope s_drawn) f cdv A outer s H E).nox k_drawn [3] .fz (defBody s_drawn) (wb_drawn S_tie_of S_drawn_place) :=
  (sss_cons (ss_setO (Me := []) (i := 3) sc_drawn.nd rfl (by first | exact Or.inl rfl | exact Or.inr rfl) se_dnewT rfl)
      (sss_cons (ss_for (Me := []) PassesOwn.never rfl (si_seq (se_ix ix_seq od_ix (se_r (pv 0) rfl) se_int (fun _ _ => rfl))) (sg_tup rfl (sgs_cons (sg_name (pg_name (i := 4) sc_drawn.nd rfl (by first | exact Or.inl rfl | exact Or.inr rfl)) rfl) (sgs_cons (sg_name (pg_name (i := 5) sc_drawn.nd rfl (by first | exact Or.inl rfl | exact Or.inr rfl)) rfl) sgs_nil))) (sss_cons (ss_set (Me := []) (i := 6) sc_drawn.nd rfl (by first | exact Or.inl rfl | exact Or.inr rfl) (se_fn G_tie_of hr (by rfl) (sa_cons (se_fn G_drawn_place hr (by rfl) (sa_cons (se_v (pv 4) rfl) (sa_cons (se_v (pv 1) rfl) (sa_cons (se_r (pv 2) rfl) sa_nil)))) (sa_cons (se_fn G_drawn_place hr (by rfl) (sa_cons (se_v (pv 5) rfl) (sa_cons (se_v (pv 1) rfl) (sa_cons (se_r (pv 2) rfl) sa_nil)))) sa_nil))) rfl)
      (sss_one (ss_if (Me := []) (st_cmp (op_neD hr.units) od_ne (se_ix ix_seq od_ix (se_v (pv 6) rfl) se_int (fun _ _ => rfl)) (se_ix ix_seq od_ix (se_v (pv 6) rfl) se_int (fun _ _ => rfl)) (nomark _)) (sss_one (ss_dputT (Me := []) (le65 (room65 hr)) (pv 3) se_bl (se_v (pv 6) rfl) (Or.inl rfl) (hs := by rfl))) sss_nil))))
      (sss_one (ss_ret (Me := []) (se_tup (sa_cons (se_bin op_sub od_sub (se_ix ix_seq od_ix (se_r (pv 0) rfl) se_int (fun _ _ => rfl)) se_int) (sa_cons (se_bty call_tupleM bd_tup (by rfl) T.b_tuple bt_tuple (sa_cons (se_blt (cr_sortedT2 rfl) bd_sortT (by rfl) T.b_sorted bt_sorted (sa_cons (se_o (pv 3) rfl) sa_nil)) sa_nil)) sa_nil)))))))
theorem g_drawn {P : Program} {w : World} {K : PySem.W.Frag} {mg : Str → Option Value} {base : Heap} {f : Addr} {fd : FuncData} {C_Apart C_NoFall C_NoMouth C_NoPast C_NoPlace C_NoRow C_NoSpring C_NoText C_NoTie C_RillError C_SamePlace C_There C_TooMany : Addr} (T : TX K mg C_Apart C_NoFall C_NoMouth C_NoPast C_NoPlace C_NoRow C_NoSpring C_NoText C_NoTie C_RillError C_SamePlace C_There C_TooMany) (G_tie_of : FnB P w K mg base 1 "tie_of" ["a", "b"] [.rd, .rd] .fz S_tie_of) (G_drawn_place : FnB P w K mg base 1 "drawn_place" ["place", "a", "b"] [.rd, .fz, .rd] .fz S_drawn_place) (F : Fun K "drawn" "drawn" s_drawn f fd) (hm : mg "drawn" = some (.ref f)) : FnB P w K mg base 2 "drawn" ["web", "a", "b"] [.rd, .fz, .rd] .fz S_drawn :=
  ⟨f, fd, fn_def [.rd, .fz, .rd] F sc_drawn rfl rfl rfl (by first | exact .inl rfl | exact .inr rfl) (by intro i; match i with | i => exact noq (by decide) i) (b_drawn T G_tie_of G_drawn_place) m_drawn, hm, F.kp, F.binds fun _ _ _ _ _ _ us hl => match us, hl with | [_, _, _], _ => rfl⟩
abbrev s_l_due : Stmt := topS 33
abbrev N_l_due : List Str := ["way", "web", "a", "b", "pair", "kinds", "at", "tie"]
abbrev k_l_due : List SK := [.r, .r, .r, .r, .v, .o, .v, .v]
theorem sc_l_due : FnScope N_l_due ["way", "web", "a", "b"] (defScope s_l_due) := ⟨rfl, rfl, rfl, by decide +kernel, rfl, by decide +kernel, by decide +kernel⟩
theorem b_l_due {P : Program} {w : World} {K : PySem.W.Frag} {mg : Str → Option Value} {base : Heap} {C_Apart C_NoFall C_NoMouth C_NoPast C_NoPlace C_NoRow C_NoSpring C_NoText C_NoTie C_RillError C_SamePlace C_There C_TooMany : Addr} (T : TX K mg C_Apart C_NoFall C_NoMouth C_NoPast C_NoPlace C_NoRow C_NoSpring C_NoText C_NoTie C_RillError C_SamePlace C_There C_TooMany) {f : Addr} (cdv : Value) (A : Around) (outer : List Env) (s : Shared) (H : Hp) (E : XK) (hr : Room 0 (A.deeper (envOfC "_law_due" (defScope s_l_due) s.heap.objs.size f cdv))) :
    SSs (cxOf CX0 P w K mg base N_l_due "_law_due" (defScope s_l_due) f cdv A outer s H E).nox k_l_due [5] .fz (defBody s_l_due) (wb_l_due) :=
  (sss_cons (ss_set (Me := []) (i := 4) sc_l_due.nd rfl (by first | exact Or.inl rfl | exact Or.inr rfl) (se_tup (sa_cons (se_blt (call_min2 rfl) bd_min2 (by rfl) T.b_min bt_min (sa_cons (se_r (pv 2) rfl) (sa_cons (se_r (pv 3) rfl) sa_nil))) (sa_cons (se_blt (call_max2 rfl) bd_max2 (by rfl) T.b_max bt_max (sa_cons (se_r (pv 2) rfl) (sa_cons (se_r (pv 3) rfl) sa_nil))) sa_nil))) rfl)
      (sss_cons (ss_setO (Me := []) (i := 5) sc_l_due.nd rfl (by first | exact Or.inl rfl | exact Or.inr rfl) (se_bin op_catR od_addL (se_bin op_repR od_rep (se_lst (sa_cons se_bl sa_nil)) se_int) (se_lst (sa_cons se_bl (sa_cons se_bl sa_nil)))) rfl)
      (sss_cons (ss_if (Me := []) (st_cmp (op_eqD hr.units) od_eq (se_r (pv 0) rfl) se_int (nomark _)) (sss_cons (ss_if (Me := []) (st_cmp (op_inF (room65 hr)) od_in (se_v (pv 4) rfl) (se_ix ix_seq od_ix (se_r (pv 1) rfl) se_int (fun _ _ => rfl)) (by with_unfolding_all rfl)) (sss_one (ss_ret (Me := []) (se_tup (sa_cons (se_ix ix_seq od_ix (se_r (pv 1) rfl) se_int (fun _ _ => rfl)) (sa_cons (se_bty call_tupleM bd_tup (by rfl) T.b_tuple bt_tuple (sa_cons (se_lc rfl sc_l_due.nd (si_seq (se_ix ix_seq od_ix (se_r (pv 1) rfl) se_int (fun _ _ => rfl))) (own := [("tie", 7)]) (blkOk_by (by kernel_rfl)) (fun _ _ _ _ _ => (sg_name (pg_name (i := 7) sc_l_due.nd rfl (by first | exact Or.inl rfl | exact Or.inr rfl)) rfl)) (fun _ _ _ _ _ => (sp_one (st_cmp (op_neD hr.units) od_ne (se_v (pv 7) rfl) (se_v (pv 4) rfl) (nomark _)))) (fun _ _ _ _ _ => (se_v (pv 7) rfl))) sa_nil)) sa_nil))))) sss_nil)
      (sss_cons (ss_setix (Me := []) (pv 5) se_bl se_int (Or.inl rfl))
      (sss_one (ss_retof (Me := []) (se_o (pv 5) rfl) rfl)))) sss_nil)
      (sss_cons (ss_if (Me := []) (st_cmp (op_inF (room65 hr)) od_in (se_v (pv 4) rfl) (se_ix ix_seq od_ix (se_r (pv 1) rfl) se_int (fun _ _ => rfl)) (by with_unfolding_all rfl)) (sss_cons (ss_setix (Me := []) (pv 5) se_bl se_int (Or.inl rfl))
      (sss_one (ss_retof (Me := []) (se_o (pv 5) rfl) rfl))) sss_nil)
      (sss_cons (ss_if (Me := []) (st_cmp (op_eqD hr.units) od_eq (se_blt call_len_seq bd_len (by rfl) T.b_len bt_len (sa_cons (se_ix ix_seq od_ix (se_r (pv 1) rfl) se_int (fun _ _ => rfl)) sa_nil)) se_int (nomark _)) (sss_cons (ss_setix (Me := []) (pv 5) se_bl se_int (Or.inl rfl))
      (sss_one (ss_retof (Me := []) (se_o (pv 5) rfl) rfl))) sss_nil)
      (sss_cons (ss_set (Me := []) (i := 6) sc_l_due.nd rfl (by first | exact Or.inl rfl | exact Or.inr rfl) (se_blt call_len_seq bd_len (by rfl) T.b_len bt_len (sa_cons (se_lc rfl sc_l_due.nd (si_seq (se_ix ix_seq od_ix (se_r (pv 1) rfl) se_int (fun _ _ => rfl))) (own := [("tie", 7)]) (blkOk_by (by kernel_rfl)) (fun _ _ _ _ _ => (sg_name (pg_name (i := 7) sc_l_due.nd rfl (by first | exact Or.inl rfl | exact Or.inr rfl)) rfl)) (fun _ _ _ _ _ => (sp_one (st_cmp (op_ltF hr.units0) od_lt (se_v (pv 7) rfl) (se_v (pv 4) rfl) (nomark _)))) (fun _ _ _ _ _ => (se_v (pv 7) rfl))) sa_nil)) rfl)
      (sss_one (ss_ret (Me := []) (se_tup (sa_cons (se_ix ix_seq od_ix (se_r (pv 1) rfl) se_int (fun _ _ => rfl)) (sa_cons (se_bin op_addF od_add (se_bin op_addF od_add (se_sl sl_F sd_F (se_ix ix_seq od_ix (se_r (pv 1) rfl) se_int (fun _ _ => rfl)) so_n (so_s (se_v (pv 6) rfl))) (se_tup (sa_cons (se_v (pv 4) rfl) sa_nil))) (se_sl sl_F sd_F (se_ix ix_seq od_ix (se_r (pv 1) rfl) se_int (fun _ _ => rfl)) (so_s (se_v (pv 6) rfl)) so_n)) sa_nil)))))))))))
theorem g_l_due {P : Program} {w : World} {K : PySem.W.Frag} {mg : Str → Option Value} {base : Heap} {f : Addr} {fd : FuncData} {C_Apart C_NoFall C_NoMouth C_NoPast C_NoPlace C_NoRow C_NoSpring C_NoText C_NoTie C_RillError C_SamePlace C_There C_TooMany : Addr} (T : TX K mg C_Apart C_NoFall C_NoMouth C_NoPast C_NoPlace C_NoRow C_NoSpring C_NoText C_NoTie C_RillError C_SamePlace C_There C_TooMany) (F : Fun K "_law_due" "_law_due" s_l_due f fd) (hm : mg "_law_due" = some (.ref f)) : FnB P w K mg base 1 "_law_due" ["way", "web", "a", "b"] [.rd, .rd, .rd, .rd] .fz S_l_due :=
  ⟨f, fd, fn_def [.rd, .rd, .rd, .rd] F sc_l_due rfl rfl rfl (by first | exact .inl rfl | exact .inr rfl) (by intro i; match i with | i => exact noq (by decide) i) (b_l_due T) m_l_due, hm, F.kp, F.binds fun _ _ _ _ _ _ us hl => match us, hl with | [_, _, _, _], _ => rfl⟩
abbrev s_is_tied : Stmt := topS 17
abbrev N_is_tied : List Str := ["web", "a", "b"]
abbrev k_is_tied : List SK := [.r, .r, .r]
theorem sc_is_tied : FnScope N_is_tied ["web", "a", "b"] (defScope s_is_tied) := ⟨rfl, rfl, rfl, by decide +kernel, rfl, by decide +kernel, by decide +kernel⟩
theorem b_is_tied {P : Program} {w : World} {K : PySem.W.Frag} {mg : Str → Option Value} {base : Heap} {C_Apart C_NoFall C_NoMouth C_NoPast C_NoPlace C_NoRow C_NoSpring C_NoText C_NoTie C_RillError C_SamePlace C_There C_TooMany : Addr} (T : TX K mg C_Apart C_NoFall C_NoMouth C_NoPast C_NoPlace C_NoRow C_NoSpring C_NoText C_NoTie C_RillError C_SamePlace C_There C_TooMany) (G_tie_of : FnB P w K mg base 1 "tie_of" ["a", "b"] [.rd, .rd] .fz S_tie_of) {f : Addr} (cdv : Value) (A : Around) (outer : List Env) (s : Shared) (H : Hp) (E : XK) (hr : Room 1 (A.deeper (envOfC "is_tied" (defScope s_is_tied) s.heap.objs.size f cdv))) :
    SSs (cxOf CX0 P w K mg base N_is_tied "is_tied" (defScope s_is_tied) f cdv A outer s H E).nox k_is_tied [] .fz (defBody s_is_tied) (wb_is_tied S_tie_of) :=
  (sss_one (ss_ret (Me := []) (se_cmp (op_inF (room65 hr)) od_in (se_fn G_tie_of hr (by rfl) (sa_cons (se_r (pv 1) rfl) (sa_cons (se_r (pv 2) rfl) sa_nil))) (se_ix ix_seq od_ix (se_r (pv 0) rfl) se_int (fun _ _ => rfl)) (by with_unfolding_all rfl))))
theorem g_is_tied {P : Program} {w : World} {K : PySem.W.Frag} {mg : Str → Option Value} {base : Heap} {f : Addr} {fd : FuncData} {C_Apart C_NoFall C_NoMouth C_NoPast C_NoPlace C_NoRow C_NoSpring C_NoText C_NoTie C_RillError C_SamePlace C_There C_TooMany : Addr} (T : TX K mg C_Apart C_NoFall C_NoMouth C_NoPast C_NoPlace C_NoRow C_NoSpring C_NoText C_NoTie C_RillError C_SamePlace C_There C_TooMany) (G_tie_of : FnB P w K mg base 1 "tie_of" ["a", "b"] [.rd, .rd] .fz S_tie_of) (F : Fun K "is_tied" "is_tied" s_is_tied f fd) (hm : mg "is_tied" = some (.ref f)) : FnB P w K mg base 2 "is_tied" ["web", "a", "b"] [.rd, .rd, .rd] .fz S_is_tied :=
  ⟨f, fd, fn_def [.rd, .rd, .rd] F sc_is_tied rfl rfl rfl (by first | exact .inl rfl | exact .inr rfl) (by intro i; match i with | i => exact noq (by decide) i) (b_is_tied T G_tie_of) m_is_tied, hm, F.kp, F.binds fun _ _ _ _ _ _ us hl => match us, hl with | [_, _, _], _ => rfl⟩
abbrev s_with_tie : Stmt := topS 20
abbrev N_with_tie : List Str := ["web", "a", "b"]
abbrev k_with_tie : List SK := [.r, .r, .r]
theorem sc_with_tie : FnScope N_with_tie ["web", "a", "b"] (defScope s_with_tie) := ⟨rfl, rfl, rfl, by decide +kernel, rfl, by decide +kernel, by decide +kernel⟩
theorem b_with_tie {P : Program} {w : World} {K : PySem.W.Frag} {mg : Str → Option Value} {base : Heap} {C_Apart C_NoFall C_NoMouth C_NoPast C_NoPlace C_NoRow C_NoSpring C_NoText C_NoTie C_RillError C_SamePlace C_There C_TooMany : Addr} (T : TX K mg C_Apart C_NoFall C_NoMouth C_NoPast C_NoPlace C_NoRow C_NoSpring C_NoText C_NoTie C_RillError C_SamePlace C_There C_TooMany) (G_tie_of : FnB P w K mg base 1 "tie_of" ["a", "b"] [.rd, .rd] .fz S_tie_of) {f : Addr} (cdv : Value) (A : Around) (outer : List Env) (s : Shared) (H : Hp) (E : XK) (hr : Room 1 (A.deeper (envOfC "with_tie" (defScope s_with_tie) s.heap.objs.size f cdv))) :
    SSs (cxOf CX0 P w K mg base N_with_tie "with_tie" (defScope s_with_tie) f cdv A outer s H E).nox k_with_tie [] .fz (defBody s_with_tie) (wb_with_tie S_tie_of) :=
  (sss_one (ss_ret (Me := []) (se_tup (sa_cons (se_ix ix_seq od_ix (se_r (pv 0) rfl) se_int (fun _ _ => rfl)) (sa_cons (se_bty call_tupleM bd_tup (by rfl) T.b_tuple bt_tuple (sa_cons (se_blt cr_sortedPT bd_sortedT (by rfl) T.b_sorted bt_sorted (sa_cons (se_bin op_addF od_add (se_ix ix_seq od_ix (se_r (pv 0) rfl) se_int (fun _ _ => rfl)) (se_tup (sa_cons (se_fn G_tie_of hr (by rfl) (sa_cons (se_r (pv 1) rfl) (sa_cons (se_r (pv 2) rfl) sa_nil))) sa_nil))) sa_nil)) sa_nil)) sa_nil)))))
theorem g_with_tie {P : Program} {w : World} {K : PySem.W.Frag} {mg : Str → Option Value} {base : Heap} {f : Addr} {fd : FuncData} {C_Apart C_NoFall C_NoMouth C_NoPast C_NoPlace C_NoRow C_NoSpring C_NoText C_NoTie C_RillError C_SamePlace C_There C_TooMany : Addr} (T : TX K mg C_Apart C_NoFall C_NoMouth C_NoPast C_NoPlace C_NoRow C_NoSpring C_NoText C_NoTie C_RillError C_SamePlace C_There C_TooMany) (G_tie_of : FnB P w K mg base 1 "tie_of" ["a", "b"] [.rd, .rd] .fz S_tie_of) (F : Fun K "with_tie" "with_tie" s_with_tie f fd) (hm : mg "with_tie" = some (.ref f)) : FnB P w K mg base 2 "with_tie" ["web", "a", "b"] [.rd, .rd, .rd] .fz S_with_tie :=
  ⟨f, fd, fn_def [.rd, .rd, .rd] F sc_with_tie rfl rfl rfl (by first | exact .inl rfl | exact .inr rfl) (by intro i; match i with | i => exact noq (by decide) i) (b_with_tie T G_tie_of) m_with_tie, hm, F.kp, F.binds fun _ _ _ _ _ _ us hl => match us, hl with | [_, _, _], _ => rfl⟩
abbrev s_tied : Stmt := topS 21
abbrev N_tied : List Str := ["web", "a", "b"]
abbrev k_tied : List SK := [.r, .r, .r]
theorem sc_tied : FnScope N_tied ["web", "a", "b"] (defScope s_tied) := ⟨rfl, rfl, rfl, by decide +kernel, rfl, by decide +kernel, by decide +kernel⟩
theorem b_tied {P : Program} {w : World} {K : PySem.W.Frag} {mg : Str → Option Value} {base : Heap} {C_Apart C_NoFall C_NoMouth C_NoPast C_NoPlace C_NoRow C_NoSpring C_NoText C_NoTie C_RillError C_SamePlace C_There C_TooMany : Addr} (T : TX K mg C_Apart C_NoFall C_NoMouth C_NoPast C_NoPlace C_NoRow C_NoSpring C_NoText C_NoTie C_RillError C_SamePlace C_There C_TooMany) (G_is_tied : FnB P w K mg base 2 "is_tied" ["web", "a", "b"] [.rd, .rd, .rd] .fz S_is_tied) (G_with_tie : FnB P w K mg base 2 "with_tie" ["web", "a", "b"] [.rd, .rd, .rd] .fz S_with_tie) {f : Addr} (cdv : Value) (A : Around) (outer : List Env) (s : Shared) (H : Hp) (E : XK) (hr : Room 2 (A.deeper (envOfC "tied" (defScope s_tied) s.heap.objs.size f cdv))) :
    SSsX (cxOf (L2N.CX P w) P w K mg base N_tied "tied" (defScope s_tied) f cdv A outer s H E) (fun cls d _ H2 => E cls d H2) k_tied [] .fz (defBody s_tied) (wb_tied S_is_tied S_with_tie) :=
  (sssx_cons (ssx_if (Me := []) (st_val (se_fn G_is_tied hr (by rfl) (sa_cons (se_r (pv 0) rfl) (sa_cons (se_r (pv 1) rfl) (sa_cons (se_r (pv 2) rfl) sa_nil))))) (sssx_one (ssx_raise rfl (L2N.takes_of rfl rfl rfl rfl) (L2N.pmk_own PySem.F.excBase_ValueError T.x_There T.g_There T.k_There (raises_own T.bs_There T.ty_There) rfl) T.g_There)) sssx_nil)
      (sssx_cons (ssx_if (Me := []) (st_cmp (op_eqD hr.units) od_eq (se_blt call_len_seq bd_len (by rfl) T.b_len bt_len (sa_cons (se_ix ix_seq od_ix (se_r (pv 0) rfl) se_int (fun _ _ => rfl)) sa_nil)) (se_gint (by rfl) T.c_MOST_TIES.choose_spec) (nomark _)) (sssx_one (ssx_raise rfl (L2N.takes_of rfl rfl rfl rfl) (L2N.pmk_own PySem.F.excBase_ValueError T.x_TooMany T.g_TooMany T.k_TooMany (raises_own T.bs_TooMany T.ty_TooMany) rfl) T.g_TooMany)) sssx_nil)
      (sssx_one (SSX.thru (ss_ret (Me := []) (se_fn G_with_tie hr (by rfl) (sa_cons (se_r (pv 0) rfl) (sa_cons (se_r (pv 1) rfl) (sa_cons (se_r (pv 2) rfl) sa_nil)))))))))
theorem g_tied {P : Program} {w : World} {K : PySem.W.Frag} {mg : Str → Option Value} {base : Heap} {f : Addr} {fd : FuncData} {C_Apart C_NoFall C_NoMouth C_NoPast C_NoPlace C_NoRow C_NoSpring C_NoText C_NoTie C_RillError C_SamePlace C_There C_TooMany : Addr} (T : TX K mg C_Apart C_NoFall C_NoMouth C_NoPast C_NoPlace C_NoRow C_NoSpring C_NoText C_NoTie C_RillError C_SamePlace C_There C_TooMany) (G_is_tied : FnB P w K mg base 2 "is_tied" ["web", "a", "b"] [.rd, .rd, .rd] .fz S_is_tied) (G_with_tie : FnB P w K mg base 2 "with_tie" ["web", "a", "b"] [.rd, .rd, .rd] .fz S_with_tie) (F : Fun K "tied" "tied" s_tied f fd) (hm : mg "tied" = some (.ref f)) : FnBX P w K mg base 3 "tied" ["web", "a", "b"] [.rd, .rd, .rd] .fz S_tied :=
  ⟨f, fd, fn_defX [.rd, .rd, .rd] F sc_tied rfl rfl rfl (by first | exact .inl rfl | exact .inr rfl) (by intro i; match i with | i => exact noq (by decide) i) (b_tied T G_is_tied G_with_tie) m_tied, hm, F.kp, F.binds fun _ _ _ _ _ _ us hl => match us, hl with | [_, _, _], _ => rfl⟩
abbrev s_untied : Stmt := topS 22
abbrev N_untied : List Str := ["web", "a", "b", "tie"]
abbrev k_untied : List SK := [.r, .r, .r, .v]
theorem sc_untied : FnScope N_untied ["web", "a", "b"] (defScope s_untied) := ⟨rfl, rfl, rfl, by decide +kernel, rfl, by decide +kernel, by decide +kernel⟩
theorem b_untied {P : Program} {w : World} {K : PySem.W.Frag} {mg : Str → Option Value} {base : Heap} {C_Apart C_NoFall C_NoMouth C_NoPast C_NoPlace C_NoRow C_NoSpring C_NoText C_NoTie C_RillError C_SamePlace C_There C_TooMany : Addr} (T : TX K mg C_Apart C_NoFall C_NoMouth C_NoPast C_NoPlace C_NoRow C_NoSpring C_NoText C_NoTie C_RillError C_SamePlace C_There C_TooMany) (G_is_tied : FnB P w K mg base 2 "is_tied" ["web", "a", "b"] [.rd, .rd, .rd] .fz S_is_tied) (G_tie_of : FnB P w K mg base 1 "tie_of" ["a", "b"] [.rd, .rd] .fz S_tie_of) {f : Addr} (cdv : Value) (A : Around) (outer : List Env) (s : Shared) (H : Hp) (E : XK) (hr : Room 2 (A.deeper (envOfC "untied" (defScope s_untied) s.heap.objs.size f cdv))) :
    SSsX (cxOf (L2N.CX P w) P w K mg base N_untied "untied" (defScope s_untied) f cdv A outer s H E) (fun cls d _ H2 => E cls d H2) k_untied [] .fz (defBody s_untied) (wb_untied S_is_tied S_tie_of) :=
  (sssx_cons (ssx_if (Me := []) (st_not (st_val (se_fn G_is_tied hr (by rfl) (sa_cons (se_r (pv 0) rfl) (sa_cons (se_r (pv 1) rfl) (sa_cons (se_r (pv 2) rfl) sa_nil)))))) (sssx_one (ssx_raise rfl (L2N.takes_of rfl rfl rfl rfl) (L2N.pmk_own PySem.F.excBase_ValueError T.x_NoTie T.g_NoTie T.k_NoTie (raises_own T.bs_NoTie T.ty_NoTie) rfl) T.g_NoTie)) sssx_nil)
      (sssx_one (SSX.thru (ss_ret (Me := []) (se_tup (sa_cons (se_ix ix_seq od_ix (se_r (pv 0) rfl) se_int (fun _ _ => rfl)) (sa_cons (se_bty call_tupleM bd_tup (by rfl) T.b_tuple bt_tuple (sa_cons (se_lc rfl sc_untied.nd (si_seq (se_ix ix_seq od_ix (se_r (pv 0) rfl) se_int (fun _ _ => rfl))) (own := [("tie", 3)]) (blkOk_by (by kernel_rfl)) (fun _ _ _ _ _ => (sg_name (pg_name (i := 3) sc_untied.nd rfl (by first | exact Or.inl rfl | exact Or.inr rfl)) rfl)) (fun _ _ _ _ _ => (sp_one (st_cmp (op_neD hr.units) od_ne (se_v (pv 3) rfl) (se_fn G_tie_of hr (by rfl) (sa_cons (se_r (pv 1) rfl) (sa_cons (se_r (pv 2) rfl) sa_nil))) (nomark _)))) (fun _ _ _ _ _ => (se_v (pv 3) rfl))) sa_nil)) sa_nil)))))))
theorem g_untied {P : Program} {w : World} {K : PySem.W.Frag} {mg : Str → Option Value} {base : Heap} {f : Addr} {fd : FuncData} {C_Apart C_NoFall C_NoMouth C_NoPast C_NoPlace C_NoRow C_NoSpring C_NoText C_NoTie C_RillError C_SamePlace C_There C_TooMany : Addr} (T : TX K mg C_Apart C_NoFall C_NoMouth C_NoPast C_NoPlace C_NoRow C_NoSpring C_NoText C_NoTie C_RillError C_SamePlace C_There C_TooMany) (G_is_tied : FnB P w K mg base 2 "is_tied" ["web", "a", "b"] [.rd, .rd, .rd] .fz S_is_tied) (G_tie_of : FnB P w K mg base 1 "tie_of" ["a", "b"] [.rd, .rd] .fz S_tie_of) (F : Fun K "untied" "untied" s_untied f fd) (hm : mg "untied" = some (.ref f)) : FnBX P w K mg base 3 "untied" ["web", "a", "b"] [.rd, .rd, .rd] .fz S_untied :=
  ⟨f, fd, fn_defX [.rd, .rd, .rd] F sc_untied rfl rfl rfl (by first | exact .inl rfl | exact .inr rfl) (by intro i; match i with | i => exact noq (by decide) i) (b_untied T G_is_tied G_tie_of) m_untied, hm, F.kp, F.binds fun _ _ _ _ _ _ us hl => match us, hl with | [_, _, _], _ => rfl⟩
abbrev s_l_changed : Stmt := topS 32
abbrev N_l_changed : List Str := ["way", "web", "a", "b", "found", "e"]
abbrev k_l_changed : List SK := [.r, .r, .r, .r, .v, .v]
theorem sc_l_changed : FnScope N_l_changed ["way", "web", "a", "b"] (defScope s_l_changed) := ⟨rfl, rfl, rfl, by decide +kernel, rfl, by decide +kernel, by decide +kernel⟩
theorem b_l_changed {P : Program} {w : World} {K : PySem.W.Frag} {mg : Str → Option Value} {base : Heap} {C_Apart C_NoFall C_NoMouth C_NoPast C_NoPlace C_NoRow C_NoSpring C_NoText C_NoTie C_RillError C_SamePlace C_There C_TooMany : Addr} (T : TX K mg C_Apart C_NoFall C_NoMouth C_NoPast C_NoPlace C_NoRow C_NoSpring C_NoText C_NoTie C_RillError C_SamePlace C_There C_TooMany) (G_tied : FnBX P w K mg base 3 "tied" ["web", "a", "b"] [.rd, .rd, .rd] .fz S_tied) (G_untied : FnBX P w K mg base 3 "untied" ["web", "a", "b"] [.rd, .rd, .rd] .fz S_untied) (GH_l_kinds : FnBH P w K mg base 1 "_law_kinds" "e" .fz S_l_kinds) {f : Addr} (cdv : Value) (A : Around) (outer : List Env) (s : Shared) (H : Hp) (E : XK) (hr : Room 3 (A.deeper (envOfC "_law_changed" (defScope s_l_changed) s.heap.objs.size f cdv))) :
    SSs (cxOf CX0 P w K mg base N_l_changed "_law_changed" (defScope s_l_changed) f cdv A outer s H E).nox k_l_changed [] .fz (defBody s_l_changed) (wb_l_changed S_tied S_untied S_l_kinds) :=
  (sss_cons (ss_set (Me := []) (i := 4) sc_l_changed.nd rfl (by first | exact Or.inl rfl | exact Or.inr rfl) se_non rfl)
      (sss_cons (ss_tryX (i := 5) [("NoTie", C_NoTie, (wAsg 4 (wCallH S_l_kinds 5))), ("There", C_There, (wAsg 4 (wCallH S_l_kinds 5))), ("TooMany", C_TooMany, (wAsg 4 (wCallH S_l_kinds 5)))] rfl rfl sc_l_changed.nd rfl rfl ⟨rfl, by decide, .inl T.g_RillError⟩ rfl (by decide) ⟨⟨T.g_NoTie, PySem.W.exm_ref T.bs_RillError T.hd_RillError T.ty_RillError T.su_NoTie_RillError, fun a oe pn hz hf => (sss_one (ss_set (Me := []) (i := 4) sc_l_changed.nd rfl (by first | exact Or.inl rfl | exact Or.inr rfl) (se_callH GH_l_kinds hr ⟨T.ek_NoTie, ⟨T.ga_NoTie, T.gg_NoTie, T.bs_NoTie, T.hd_NoTie, T.gc_NoTie, T.sp0, T.tk0, T.mo_NoTie⟩, T.et_NoTie⟩ hz hf (pv 5) (by rfl) rfl) rfl))⟩, ⟨T.g_There, PySem.W.exm_ref T.bs_RillError T.hd_RillError T.ty_RillError T.su_There_RillError, fun a oe pn hz hf => (sss_one (ss_set (Me := []) (i := 4) sc_l_changed.nd rfl (by first | exact Or.inl rfl | exact Or.inr rfl) (se_callH GH_l_kinds hr ⟨T.ek_There, ⟨T.ga_There, T.gg_There, T.bs_There, T.hd_There, T.gc_There, T.sp0, T.tk0, T.mo_There⟩, T.et_There⟩ hz hf (pv 5) (by rfl) rfl) rfl))⟩, ⟨T.g_TooMany, PySem.W.exm_ref T.bs_RillError T.hd_RillError T.ty_RillError T.su_TooMany_RillError, fun a oe pn hz hf => (sss_one (ss_set (Me := []) (i := 4) sc_l_changed.nd rfl (by first | exact Or.inl rfl | exact Or.inr rfl) (se_callH GH_l_kinds hr ⟨T.ek_TooMany, ⟨T.ga_TooMany, T.gg_TooMany, T.bs_TooMany, T.hd_TooMany, T.gc_TooMany, T.sp0, T.tk0, T.mo_TooMany⟩, T.et_TooMany⟩ hz hf (pv 5) (by rfl) rfl) rfl))⟩, trivial⟩ (fun W pn xe tk => (sssx_one (ssx_set (Me := []) (i := 4) sc_l_changed.nd rfl (by first | exact Or.inl rfl | exact Or.inr rfl) (sex_pick G_tied G_untied tk hr (by rfl) (by rfl) (se_r (pv 0) rfl) (fun _ _ => rfl) (sa_cons (se_r (pv 1) rfl) (sa_cons (se_r (pv 2) rfl) (sa_cons (se_r (pv 3) rfl) sa_nil)))) rfl))))
      (sss_one (ss_ret (Me := []) (se_v (pv 4) rfl)))))
theorem g_l_changed {P : Program} {w : World} {K : PySem.W.Frag} {mg : Str → Option Value} {base : Heap} {f : Addr} {fd : FuncData} {C_Apart C_NoFall C_NoMouth C_NoPast C_NoPlace C_NoRow C_NoSpring C_NoText C_NoTie C_RillError C_SamePlace C_There C_TooMany : Addr} (T : TX K mg C_Apart C_NoFall C_NoMouth C_NoPast C_NoPlace C_NoRow C_NoSpring C_NoText C_NoTie C_RillError C_SamePlace C_There C_TooMany) (G_tied : FnBX P w K mg base 3 "tied" ["web", "a", "b"] [.rd, .rd, .rd] .fz S_tied) (G_untied : FnBX P w K mg base 3 "untied" ["web", "a", "b"] [.rd, .rd, .rd] .fz S_untied) (GH_l_kinds : FnBH P w K mg base 1 "_law_kinds" "e" .fz S_l_kinds) (F : Fun K "_law_changed" "_law_changed" s_l_changed f fd) (hm : mg "_law_changed" = some (.ref f)) : FnB P w K mg base 4 "_law_changed" ["way", "web", "a", "b"] [.rd, .rd, .rd, .rd] .fz S_l_changed :=
  ⟨f, fd, fn_def [.rd, .rd, .rd, .rd] F sc_l_changed rfl rfl rfl (by first | exact .inl rfl | exact .inr rfl) (by intro i; match i with | i => exact noq (by decide) i) (b_l_changed T G_tied G_untied GH_l_kinds) m_l_changed, hm, F.kp, F.binds fun _ _ _ _ _ _ us hl => match us, hl with | [_, _, _, _], _ => rfl⟩
abbrev s_l_sound : Stmt := topS 27
abbrev N_l_sound : List Str := ["thing"]
abbrev k_l_sound : List SK := [.r]
theorem sc_l_sound : FnScope N_l_sound ["thing"] (defScope s_l_sound) := ⟨rfl, rfl, rfl, by decide +kernel, rfl, by decide +kernel, by decide +kernel⟩
theorem b_l_sound {P : Program} {w : World} {K : PySem.W.Frag} {mg : Str → Option Value} {base : Heap} {C_Apart C_NoFall C_NoMouth C_NoPast C_NoPlace C_NoRow C_NoSpring C_NoText C_NoTie C_RillError C_SamePlace C_There C_TooMany : Addr} (T : TX K mg C_Apart C_NoFall C_NoMouth C_NoPast C_NoPlace C_NoRow C_NoSpring C_NoText C_NoTie C_RillError C_SamePlace C_There C_TooMany) {f : Addr} (cdv : Value) (A : Around) (outer : List Env) (s : Shared) (H : Hp) (E : XK) (hr : Room 0 (A.deeper (envOfC "_law_sound" (defScope s_l_sound) s.heap.objs.size f cdv))) :
    SSs (cxOf CX0 P w K mg base N_l_sound "_law_sound" (defScope s_l_sound) f cdv A outer s H E).nox k_l_sound [] .fz (defBody s_l_sound) (wb_l_sound) :=
  (sss_one (ss_ret (Me := []) (se_and (se_isi kt_int (se_r (pv 0) rfl) (by rfl) T.b_isinstance (by rfl) T.b_int bt_int) (se_one (se_not (se_isi kt_bool (se_r (pv 0) rfl) (by rfl) T.b_isinstance (by rfl) T.b_bool bt_bool))))))
theorem g_l_sound {P : Program} {w : World} {K : PySem.W.Frag} {mg : Str → Option Value} {base : Heap} {f : Addr} {fd : FuncData} {C_Apart C_NoFall C_NoMouth C_NoPast C_NoPlace C_NoRow C_NoSpring C_NoText C_NoTie C_RillError C_SamePlace C_There C_TooMany : Addr} (T : TX K mg C_Apart C_NoFall C_NoMouth C_NoPast C_NoPlace C_NoRow C_NoSpring C_NoText C_NoTie C_RillError C_SamePlace C_There C_TooMany) (F : Fun K "_law_sound" "_law_sound" s_l_sound f fd) (hm : mg "_law_sound" = some (.ref f)) : FnB P w K mg base 1 "_law_sound" ["thing"] [.rd] .fz S_l_sound :=
  ⟨f, fd, fn_def [.rd] F sc_l_sound rfl rfl rfl (by first | exact .inl rfl | exact .inr rfl) (by intro i; match i with | i => exact noq (by decide) i) (b_l_sound T) m_l_sound, hm, F.kp, F.binds fun _ _ _ _ _ _ us hl => match us, hl with | [_], _ => rfl⟩
abbrev s_l_is_web : Stmt := topS 28
abbrev N_l_is_web : List Str := ["thing", "last", "tie"]
abbrev k_l_is_web : List SK := [.r, .v, .v]
theorem sc_l_is_web : FnScope N_l_is_web ["thing"] (defScope s_l_is_web) := ⟨rfl, rfl, rfl, by decide +kernel, rfl, by decide +kernel, by decide +kernel⟩
theorem b_l_is_web {P : Program} {w : World} {K : PySem.W.Frag} {mg : Str → Option Value} {base : Heap} {C_Apart C_NoFall C_NoMouth C_NoPast C_NoPlace C_NoRow C_NoSpring C_NoText C_NoTie C_RillError C_SamePlace C_There C_TooMany : Addr} (T : TX K mg C_Apart C_NoFall C_NoMouth C_NoPast C_NoPlace C_NoRow C_NoSpring C_NoText C_NoTie C_RillError C_SamePlace C_There C_TooMany) (G_l_sound : FnB P w K mg base 1 "_law_sound" ["thing"] [.rd] .fz S_l_sound) {f : Addr} (cdv : Value) (A : Around) (outer : List Env) (s : Shared) (H : Hp) (E : XK) (hr : Room 1 (A.deeper (envOfC "_law_is_web" (defScope s_l_is_web) s.heap.objs.size f cdv))) :
    SSs (cxOf CX0 P w K mg base N_l_is_web "_law_is_web" (defScope s_l_is_web) f cdv A outer s H E).nox k_l_is_web [] .fz (defBody s_l_is_web) (wb_l_is_web S_l_sound) :=
  (sss_cons (ss_if (Me := []) (SW.st (sw_or (st_not (st_val (se_isi kt_tuple (se_r (pv 0) rfl) (by rfl) T.b_isinstance (by rfl) T.b_tuple bt_tuple))) (sw_or (st_cmp (op_neD hr.units) od_ne (se_blt call_len_seq bd_len (by rfl) T.b_len bt_len (sa_cons (se_r (pv 0) rfl) sa_nil)) se_int (nomark _)) (sw_or (st_not (st_val (se_fn G_l_sound hr (by rfl) (sa_cons (se_ix ix_seq od_ix (se_r (pv 0) rfl) se_int (fun _ _ => rfl)) sa_nil)))) (sw_or1 (st_not (st_val (se_isi kt_tuple (se_ix ix_seq od_ix (se_r (pv 0) rfl) se_int (fun _ _ => rfl)) (by rfl) T.b_isinstance (by rfl) T.b_tuple bt_tuple)))))))) (sss_one (ss_ret (Me := []) se_bl)) sss_nil)
      (sss_cons (ss_if (Me := []) (SW.st (sw_or (st_not (st_chain (op_ltF hr.units0) od_lt (op_ltF hr.units0) od_lt se_int (se_ix ix_seq od_ix (se_r (pv 0) rfl) se_int (fun _ _ => rfl)) se_int)) (sw_or1 (st_cmp op_gt od_gt (se_blt call_len_seq bd_len (by rfl) T.b_len bt_len (sa_cons (se_ix ix_seq od_ix (se_r (pv 0) rfl) se_int (fun _ _ => rfl)) sa_nil)) se_int (nomark _))))) (sss_one (ss_ret (Me := []) se_bl)) sss_nil)
      (sss_cons (ss_set (Me := []) (i := 1) sc_l_is_web.nd rfl (by first | exact Or.inl rfl | exact Or.inr rfl) (se_tup (sa_cons (se_un un_neg o1_neg se_int) (sa_cons (se_un un_neg o1_neg se_int) sa_nil))) rfl)
      (sss_cons (ss_for (Me := []) PassesOwn.never rfl (si_seq (se_ix ix_seq od_ix (se_r (pv 0) rfl) se_int (fun _ _ => rfl))) (sg_name (pg_name (i := 2) sc_l_is_web.nd rfl (by first | exact Or.inl rfl | exact Or.inr rfl)) rfl) (sss_cons (ss_if (Me := []) (SW.st (sw_or (st_not (st_val (se_isi kt_tuple (se_v (pv 2) rfl) (by rfl) T.b_isinstance (by rfl) T.b_tuple bt_tuple))) (sw_or (st_cmp (op_neD hr.units) od_ne (se_blt call_len_seq bd_len (by rfl) T.b_len bt_len (sa_cons (se_v (pv 2) rfl) sa_nil)) se_int (nomark _)) (sw_or (st_not (st_val (se_fn G_l_sound hr (by rfl) (sa_cons (se_ix ix_seq od_ix (se_v (pv 2) rfl) se_int (fun _ _ => rfl)) sa_nil)))) (sw_or1 (st_not (st_val (se_fn G_l_sound hr (by rfl) (sa_cons (se_ix ix_seq od_ix (se_v (pv 2) rfl) se_int (fun _ _ => rfl)) sa_nil))))))))) (sss_one (ss_ret (Me := []) se_bl)) sss_nil)
      (sss_cons (ss_if (Me := []) (SW.st (sw_or (st_not (st_chain3 op_le od_le (op_ltF hr.units0) od_lt (op_ltF hr.units0) od_lt se_int (se_ix ix_seq od_ix (se_v (pv 2) rfl) se_int (fun _ _ => rfl)) (se_ix ix_seq od_ix (se_v (pv 2) rfl) se_int (fun _ _ => rfl)) (se_ix ix_seq od_ix (se_r (pv 0) rfl) se_int (fun _ _ => rfl)))) (sw_or1 (st_not (st_cmp (op_ltF hr.units0) od_lt (se_v (pv 1) rfl) (se_v (pv 2) rfl) (nomark _)))))) (sss_one (ss_ret (Me := []) se_bl)) sss_nil)
      (sss_one (ss_set (Me := []) (i := 1) sc_l_is_web.nd rfl (by first | exact Or.inl rfl | exact Or.inr rfl) (se_v (pv 2) rfl) rfl)))))
      (sss_one (ss_ret (Me := []) se_bl))))))
theorem g_l_is_web {P : Program} {w : World} {K : PySem.W.Frag} {mg : Str → Option Value} {base : Heap} {f : Addr} {fd : FuncData} {C_Apart C_NoFall C_NoMouth C_NoPast C_NoPlace C_NoRow C_NoSpring C_NoText C_NoTie C_RillError C_SamePlace C_There C_TooMany : Addr} (T : TX K mg C_Apart C_NoFall C_NoMouth C_NoPast C_NoPlace C_NoRow C_NoSpring C_NoText C_NoTie C_RillError C_SamePlace C_There C_TooMany) (G_l_sound : FnB P w K mg base 1 "_law_sound" ["thing"] [.rd] .fz S_l_sound) (F : Fun K "_law_is_web" "_law_is_web" s_l_is_web f fd) (hm : mg "_law_is_web" = some (.ref f)) : FnB P w K mg base 2 "_law_is_web" ["thing"] [.rd] .fz S_l_is_web :=
  ⟨f, fd, fn_def [.rd] F sc_l_is_web rfl rfl rfl (by first | exact .inl rfl | exact .inr rfl) (by intro i; match i with | i => exact noq (by decide) i) (b_l_is_web T G_l_sound) m_l_is_web, hm, F.kp, F.binds fun _ _ _ _ _ _ us hl => match us, hl with | [_], _ => rfl⟩
abbrev s_l_number : Stmt := topS 29
abbrev N_l_number : List Str := ["place", "a", "b"]
abbrev k_l_number : List SK := [.r, .v, .r]
theorem sc_l_number : FnScope N_l_number ["place", "a", "b"] (defScope s_l_number) := ⟨rfl, rfl, rfl, by decide +kernel, rfl, by decide +kernel, by decide +kernel⟩
theorem b_l_number {P : Program} {w : World} {K : PySem.W.Frag} {mg : Str → Option Value} {base : Heap} {C_Apart C_NoFall C_NoMouth C_NoPast C_NoPlace C_NoRow C_NoSpring C_NoText C_NoTie C_RillError C_SamePlace C_There C_TooMany : Addr} (T : TX K mg C_Apart C_NoFall C_NoMouth C_NoPast C_NoPlace C_NoRow C_NoSpring C_NoText C_NoTie C_RillError C_SamePlace C_There C_TooMany) {f : Addr} (cdv : Value) (A : Around) (outer : List Env) (s : Shared) (H : Hp) (E : XK) (hr : Room 0 (A.deeper (envOfC "_law_number" (defScope s_l_number) s.heap.objs.size f cdv))) :
    SSs (cxOf CX0 P w K mg base N_l_number "_law_number" (defScope s_l_number) f cdv A outer s H E).nox k_l_number [] .fz (defBody s_l_number) (wb_l_number) :=
  (sss_cons (ss_if (Me := []) (st_cmp (op_eqD hr.units) od_eq (se_r (pv 0) rfl) (se_r (pv 2) rfl) (nomark _)) (sss_one (ss_ret (Me := []) (se_v (pv 1) rfl))) sss_nil)
      (sss_one (ss_ret (Me := []) (se_bin op_sub od_sub (se_r (pv 0) rfl) (se_bty call_int1 bd_int (by rfl) T.b_int bt_int (sa_cons (se_cmp op_gt od_gt (se_r (pv 0) rfl) (se_r (pv 2) rfl) (nomark _)) sa_nil))))))
theorem g_l_number {P : Program} {w : World} {K : PySem.W.Frag} {mg : Str → Option Value} {base : Heap} {f : Addr} {fd : FuncData} {C_Apart C_NoFall C_NoMouth C_NoPast C_NoPlace C_NoRow C_NoSpring C_NoText C_NoTie C_RillError C_SamePlace C_There C_TooMany : Addr} (T : TX K mg C_Apart C_NoFall C_NoMouth C_NoPast C_NoPlace C_NoRow C_NoSpring C_NoText C_NoTie C_RillError C_SamePlace C_There C_TooMany) (F : Fun K "_law_number" "_law_number" s_l_number f fd) (hm : mg "_law_number" = some (.ref f)) : FnB P w K mg base 1 "_law_number" ["place", "a", "b"] [.rd, .fz, .rd] .fz S_l_number :=
  ⟨f, fd, fn_def [.rd, .fz, .rd] F sc_l_number rfl rfl rfl (by first | exact .inl rfl | exact .inr rfl) (by intro i; match i with | i => exact noq (by decide) i) (b_l_number T) m_l_number, hm, F.kp, F.binds fun _ _ _ _ _ _ us hl => match us, hl with | [_, _, _], _ => rfl⟩
abbrev s_l_due_drawn : Stmt := topS 30
abbrev N_l_due_drawn : List Str := ["web", "a", "b", "found", "k", "one", "other", "here", "c", "d"]
abbrev k_l_due_drawn : List SK := [.r, .v, .r, .o, .v, .v, .v, .v, .v, .v]
theorem sc_l_due_drawn : FnScope N_l_due_drawn ["web", "a", "b"] (defScope s_l_due_drawn) := ⟨rfl, rfl, rfl, by decide +kernel, rfl, by decide +kernel, by decide +kernel⟩
theorem b_l_due_drawn {P : Program} {w : World} {K : PySem.W.Frag} {mg : Str → Option Value} {base : Heap} {C_Apart C_NoFall C_NoMouth C_NoPast C_NoPlace C_NoRow C_NoSpring C_NoText C_NoTie C_RillError C_SamePlace C_There C_TooMany : Addr} (T : TX K mg C_Apart C_NoFall C_NoMouth C_NoPast C_NoPlace C_NoRow C_NoSpring C_NoText C_NoTie C_RillError C_SamePlace C_There C_TooMany) (G_l_number : FnB P w K mg base 1 "_law_number" ["place", "a", "b"] [.rd, .fz, .rd] .fz S_l_number) {f : Addr} (cdv : Value) (A : Around) (outer : List Env) (s : Shared) (H : Hp) (E : XK) (hr : Room 1 (A.deeper (envOfC "_law_due_drawn" (defScope s_l_due_drawn) s.heap.objs.size f cdv))) :
    SSs (cxOf CX0 P w K mg base N_l_due_drawn "_law_due_drawn" (defScope s_l_due_drawn) f cdv A outer s H E).nox k_l_due_drawn [3] .fz (defBody s_l_due_drawn) (wb_l_due_drawn S_l_number) :=
  (sss_cons (ss_setO (Me := []) (i := 3) sc_l_due_drawn.nd rfl (by first | exact Or.inl rfl | exact Or.inr rfl) (se_lst sa_nil) rfl)
      (sss_cons (ss_for (Me := []) PassesOwn.never rfl (si_rg1 (by rfl) T.b_range (se_bin op_mul od_mulI (se_ix ix_seq od_ix (se_r (pv 0) rfl) se_int (fun _ _ => rfl)) (se_ix ix_seq od_ix (se_r (pv 0) rfl) se_int (fun _ _ => rfl)))) (sg_name (pg_name (i := 4) sc_l_due_drawn.nd rfl (by first | exact Or.inl rfl | exact Or.inr rfl)) rfl) (sss_cons (ss_par (Me := []) (i := 5) (j := 6) rfl sc_l_due_drawn.nd rfl rfl (by decide) rfl rfl (sa_cons (se_bin op_fdiv od_fdiv (se_v (pv 4) rfl) (se_ix ix_seq od_ix (se_r (pv 0) rfl) se_int (fun _ _ => rfl))) (sa_cons (se_bin op_mod od_mod (se_v (pv 4) rfl) (se_ix ix_seq od_ix (se_r (pv 0) rfl) se_int (fun _ _ => rfl))) sa_nil)) rfl rfl (by rfl))
      (sss_cons (ss_lcV (M := []) (i := 7) rfl sc_l_due_drawn.nd rfl rfl (sw_true rfl rfl rfl (by decide +kernel)) (si_seq (se_ix ix_seq od_ix (se_r (pv 0) rfl) se_int (fun _ _ => rfl))) (own := [("c", 8), ("d", 9)]) (blkOk_by (by kernel_rfl)) (fun _ _ _ _ _ => (sg_tup rfl (sgs_cons (sg_name (pg_name (i := 8) sc_l_due_drawn.nd rfl (by first | exact Or.inl rfl | exact Or.inr rfl)) rfl) (sgs_cons (sg_name (pg_name (i := 9) sc_l_due_drawn.nd rfl (by first | exact Or.inl rfl | exact Or.inr rfl)) rfl) sgs_nil)))) (fun _ _ _ _ _ => sp_nil) (fun _ _ _ _ _ => (se_tup (sa_cons (se_fn G_l_number hr (by rfl) (sa_cons (se_v (pv 8) rfl) (sa_cons (se_v (pv 1) rfl) (sa_cons (se_r (pv 2) rfl) sa_nil)))) (sa_cons (se_fn G_l_number hr (by rfl) (sa_cons (se_v (pv 9) rfl) (sa_cons (se_v (pv 1) rfl) (sa_cons (se_r (pv 2) rfl) sa_nil)))) sa_nil)))))
      (sss_one (ss_if (Me := []) (SW.st (sw_and (st_cmp (op_ltF hr.units0) od_lt (se_v (pv 5) rfl) (se_v (pv 6) rfl) (nomark _)) (sw_and1 (SW.st (sw_or (st_cmp (op_inF (room65 hr)) od_in (se_tup (sa_cons (se_v (pv 5) rfl) (sa_cons (se_v (pv 6) rfl) sa_nil))) (se_v (pv 7) rfl) (by with_unfolding_all rfl)) (sw_or1 (st_cmp (op_inF (room65 hr)) od_in (se_tup (sa_cons (se_v (pv 6) rfl) (sa_cons (se_v (pv 5) rfl) sa_nil))) (se_v (pv 7) rfl) (by with_unfolding_all rfl)))))))) (sss_one (ss_expr (Me := [3]) (se_mut (Ma := []) PySem.F.slot_list_append PySem.F.type_list_append mt_append md_append (pv 3) (sa_cons (se_tup (sa_cons (se_v (pv 5) rfl) (sa_cons (se_v (pv 6) rfl) sa_nil))) sa_nil) (Or.inl rfl)))) sss_nil)))))
      (sss_one (ss_ret (Me := []) (se_tup (sa_cons (se_bin op_sub od_sub (se_ix ix_seq od_ix (se_r (pv 0) rfl) se_int (fun _ _ => rfl)) se_int) (sa_cons (se_bty call_tupleM bd_tup (by rfl) T.b_tuple bt_tuple (sa_cons (se_o (pv 3) rfl) sa_nil)) sa_nil)))))))
theorem g_l_due_drawn {P : Program} {w : World} {K : PySem.W.Frag} {mg : Str → Option Value} {base : Heap} {f : Addr} {fd : FuncData} {C_Apart C_NoFall C_NoMouth C_NoPast C_NoPlace C_NoRow C_NoSpring C_NoText C_NoTie C_RillError C_SamePlace C_There C_TooMany : Addr} (T : TX K mg C_Apart C_NoFall C_NoMouth C_NoPast C_NoPlace C_NoRow C_NoSpring C_NoText C_NoTie C_RillError C_SamePlace C_There C_TooMany) (G_l_number : FnB P w K mg base 1 "_law_number" ["place", "a", "b"] [.rd, .fz, .rd] .fz S_l_number) (F : Fun K "_law_due_drawn" "_law_due_drawn" s_l_due_drawn f fd) (hm : mg "_law_due_drawn" = some (.ref f)) : FnB P w K mg base 2 "_law_due_drawn" ["web", "a", "b"] [.rd, .fz, .rd] .fz S_l_due_drawn :=
  ⟨f, fd, fn_def [.rd, .fz, .rd] F sc_l_due_drawn rfl rfl rfl (by first | exact .inl rfl | exact .inr rfl) (by intro i; match i with | i => exact noq (by decide) i) (b_l_due_drawn T G_l_number) m_l_due_drawn, hm, F.kp, F.binds fun _ _ _ _ _ _ us hl => match us, hl with | [_, _, _], _ => rfl⟩
abbrev s_law : Stmt := topS 35
abbrev N_law : List Str := ["script", "cell", "pool", "web", "a", "b", "found", "way", "due"]
abbrev k_law : List SK := [.r, .v, .p, .v, .v, .v, .v, .v, .v]
theorem sc_law : FnScope N_law ["script"] (defScope s_law) := ⟨rfl, rfl, rfl, by decide +kernel, rfl, by decide +kernel, by decide +kernel⟩
theorem b_law {P : Program} {w : World} {K : PySem.W.Frag} {mg : Str → Option Value} {base : Heap} {C_Apart C_NoFall C_NoMouth C_NoPast C_NoPlace C_NoRow C_NoSpring C_NoText C_NoTie C_RillError C_SamePlace C_There C_TooMany : Addr} (T : TX K mg C_Apart C_NoFall C_NoMouth C_NoPast C_NoPlace C_NoRow C_NoSpring C_NoText C_NoTie C_RillError C_SamePlace C_There C_TooMany) (G_l_apart : FnB P w K mg base 2 "_law_apart" [] [] .fz S_l_apart) (G_l_pool : FnB P w K mg base 1 "_law_pool" ["cell"] [.rd] .nw S_l_pool) (G_l_web : FnB P w K mg base 2 "_law_web" ["pool", "most"] [.pl, .rd] .fz S_l_web) (G_l_next : FnB P w K mg base 1 "_law_next" ["pool", "base"] [.pl, .rd] .fz S_l_next) (G_drawn : FnB P w K mg base 2 "drawn" ["web", "a", "b"] [.rd, .fz, .rd] .fz S_drawn) (G_l_is_web : FnB P w K mg base 2 "_law_is_web" ["thing"] [.rd] .fz S_l_is_web) (G_l_due_drawn : FnB P w K mg base 2 "_law_due_drawn" ["web", "a", "b"] [.rd, .fz, .rd] .fz S_l_due_drawn) (G_l_due : FnB P w K mg base 1 "_law_due" ["way", "web", "a", "b"] [.rd, .rd, .rd, .rd] .fz S_l_due) (G_l_changed : FnB P w K mg base 4 "_law_changed" ["way", "web", "a", "b"] [.rd, .rd, .rd, .rd] .fz S_l_changed) {f : Addr} (cdv : Value) (A : Around) (outer : List Env) (s : Shared) (H : Hp) (E : XK) (hr : Room 4 (A.deeper (envOfC "law" (defScope s_law) s.heap.objs.size f cdv))) :
    SSs (cxOf CX0 P w K mg base N_law "law" (defScope s_law) f cdv A outer s H E).nox k_law [] .fz (defBody s_law) (wb_law S_l_apart S_l_pool S_l_web S_l_next S_drawn S_l_is_web S_l_due_drawn S_l_due S_l_changed) :=
  (sss_cons (ss_if (Me := []) (st_not (st_val (se_fn0 G_l_apart hr (by rfl)))) (sss_one (ss_ret (Me := []) se_bl)) sss_nil)
      (sss_cons (ss_for (Me := []) PassesOwn.never rfl (si_seq (se_bin op_addF od_add (se_lst (sa_cons se_int sa_nil)) (se_r (pv 0) rfl))) (sg_name (pg_name (i := 1) sc_law.nd rfl (by first | exact Or.inl rfl | exact Or.inr rfl)) rfl) (sss_cons (ss_setP (Me := []) (i := 2) sc_law.nd rfl (by first | exact Or.inl rfl | exact Or.inr rfl) (se_fn G_l_pool hr (by rfl) (sa_cons (se_v (pv 1) rfl) sa_nil)) rfl)
      (sss_cons (ss_set (Me := []) (i := 3) sc_law.nd rfl (by first | exact Or.inl rfl | exact Or.inr rfl) (se_fn G_l_web hr (by rfl) (sa_cons (se_p (pv 2) rfl) (sa_cons se_int sa_nil))) rfl)
      (sss_one (ss_if (Me := []) (st_cmp op_gt od_gt (se_ix ix_seq od_ix (se_v (pv 3) rfl) se_int (fun _ _ => rfl)) se_int (nomark _)) (sss_cons (ss_set (Me := []) (i := 4) sc_law.nd rfl (by first | exact Or.inl rfl | exact Or.inr rfl) (se_fn G_l_next hr (by rfl) (sa_cons (se_p (pv 2) rfl) (sa_cons (se_ix ix_seq od_ix (se_v (pv 3) rfl) se_int (fun _ _ => rfl)) sa_nil))) rfl)
      (sss_cons (ss_set (Me := []) (i := 5) sc_law.nd rfl (by first | exact Or.inl rfl | exact Or.inr rfl) (se_bin op_mod od_mod (se_bin op_addF od_add (se_bin op_addF od_add (se_v (pv 4) rfl) se_int) (se_fn G_l_next hr (by rfl) (sa_cons (se_p (pv 2) rfl) (sa_cons (se_bin op_sub od_sub (se_ix ix_seq od_ix (se_v (pv 3) rfl) se_int (fun _ _ => rfl)) se_int) sa_nil)))) (se_ix ix_seq od_ix (se_v (pv 3) rfl) se_int (fun _ _ => rfl))) rfl)
      (sss_cons (ss_set (Me := []) (i := 6) sc_law.nd rfl (by first | exact Or.inl rfl | exact Or.inr rfl) (se_fn G_drawn hr (by rfl) (sa_cons (se_v (pv 3) rfl) (sa_cons (se_blt (call_min2 rfl) bd_min2 (by rfl) T.b_min bt_min (sa_cons (se_v (pv 4) rfl) (sa_cons (se_v (pv 5) rfl) sa_nil))) (sa_cons (se_blt (call_max2 rfl) bd_max2 (by rfl) T.b_max bt_max (sa_cons (se_v (pv 4) rfl) (sa_cons (se_v (pv 5) rfl) sa_nil))) sa_nil)))) rfl)
      (sss_cons (ss_if (Me := []) (SW.st (sw_or (st_not (st_val (se_fn G_l_is_web hr (by rfl) (sa_cons (se_v (pv 6) rfl) sa_nil)))) (sw_or1 (st_cmp (op_neD hr.units) od_ne (se_v (pv 6) rfl) (se_fn G_l_due_drawn hr (by rfl) (sa_cons (se_v (pv 3) rfl) (sa_cons (se_blt (call_min2 rfl) bd_min2 (by rfl) T.b_min bt_min (sa_cons (se_v (pv 4) rfl) (sa_cons (se_v (pv 5) rfl) sa_nil))) (sa_cons (se_blt (call_max2 rfl) bd_max2 (by rfl) T.b_max bt_max (sa_cons (se_v (pv 4) rfl) (sa_cons (se_v (pv 5) rfl) sa_nil))) sa_nil)))) (nomark _))))) (sss_one (ss_ret (Me := []) se_bl)) sss_nil)
      (sss_one (ss_for (Me := []) PassesOwn.never rfl (si_rg1 (by rfl) T.b_range se_int) (sg_name (pg_name (i := 7) sc_law.nd rfl (by first | exact Or.inl rfl | exact Or.inr rfl)) rfl) (sss_cons (ss_set (Me := []) (i := 8) sc_law.nd rfl (by first | exact Or.inl rfl | exact Or.inr rfl) (se_fn G_l_due hr (by rfl) (sa_cons (se_v (pv 7) rfl) (sa_cons (se_v (pv 3) rfl) (sa_cons (se_v (pv 4) rfl) (sa_cons (se_v (pv 5) rfl) sa_nil))))) rfl)
      (sss_cons (ss_set (Me := []) (i := 6) sc_law.nd rfl (by first | exact Or.inl rfl | exact Or.inr rfl) (se_fn G_l_changed hr (by rfl) (sa_cons (se_v (pv 7) rfl) (sa_cons (se_v (pv 3) rfl) (sa_cons (se_v (pv 4) rfl) (sa_cons (se_v (pv 5) rfl) sa_nil))))) rfl)
      (sss_cons (ss_if (Me := []) (SW.st (sw_or (st_cmp (op_neD hr.units) od_ne (se_v (pv 6) rfl) (se_v (pv 8) rfl) (nomark _)) (sw_or1 (st_cmp (op_neD hr.units) od_ne (se_fn G_l_changed hr (by rfl) (sa_cons (se_v (pv 7) rfl) (sa_cons (se_v (pv 3) rfl) (sa_cons (se_v (pv 5) rfl) (sa_cons (se_v (pv 4) rfl) sa_nil))))) (se_v (pv 8) rfl) (nomark _))))) (sss_one (ss_ret (Me := []) se_bl)) sss_nil)
      (sss_one (ss_if (Me := []) (SW.st (sw_and (st_val (se_isi kt_tuple (se_v (pv 8) rfl) (by rfl) T.b_isinstance (by rfl) T.b_tuple bt_tuple)) (sw_and1 (st_not (st_val (se_fn G_l_is_web hr (by rfl) (sa_cons (se_v (pv 6) rfl) sa_nil))))))) (sss_one (ss_ret (Me := []) se_bl)) sss_nil))))))))))) sss_nil)))))
      (sss_one (ss_ret (Me := []) se_bl))))
theorem g_law {P : Program} {w : World} {K : PySem.W.Frag} {mg : Str → Option Value} {base : Heap} {f : Addr} {fd : FuncData} {C_Apart C_NoFall C_NoMouth C_NoPast C_NoPlace C_NoRow C_NoSpring C_NoText C_NoTie C_RillError C_SamePlace C_There C_TooMany : Addr} (T : TX K mg C_Apart C_NoFall C_NoMouth C_NoPast C_NoPlace C_NoRow C_NoSpring C_NoText C_NoTie C_RillError C_SamePlace C_There C_TooMany) (G_l_apart : FnB P w K mg base 2 "_law_apart" [] [] .fz S_l_apart) (G_l_pool : FnB P w K mg base 1 "_law_pool" ["cell"] [.rd] .nw S_l_pool) (G_l_web : FnB P w K mg base 2 "_law_web" ["pool", "most"] [.pl, .rd] .fz S_l_web) (G_l_next : FnB P w K mg base 1 "_law_next" ["pool", "base"] [.pl, .rd] .fz S_l_next) (G_drawn : FnB P w K mg base 2 "drawn" ["web", "a", "b"] [.rd, .fz, .rd] .fz S_drawn) (G_l_is_web : FnB P w K mg base 2 "_law_is_web" ["thing"] [.rd] .fz S_l_is_web) (G_l_due_drawn : FnB P w K mg base 2 "_law_due_drawn" ["web", "a", "b"] [.rd, .fz, .rd] .fz S_l_due_drawn) (G_l_due : FnB P w K mg base 1 "_law_due" ["way", "web", "a", "b"] [.rd, .rd, .rd, .rd] .fz S_l_due) (G_l_changed : FnB P w K mg base 4 "_law_changed" ["way", "web", "a", "b"] [.rd, .rd, .rd, .rd] .fz S_l_changed) (F : Fun K "law" "law" s_law f fd) : FnOk P w K mg base CX0 5 f fd ["script"] (spOfL K [.rd] .fz lawS) :=
  fn_defL [.rd] F sc_law rfl rfl rfl (by first | exact .inl rfl | exact .inr rfl) (by intro i; exact noq (by decide) i) (b_law T G_l_apart G_l_pool G_l_web G_l_next G_drawn G_l_is_web G_l_due_drawn G_l_due G_l_changed) m_law
theorem all_mk {l : PySem.W.OpenLaw} {w : World} {K : PySem.W.Frag} {h : Heap} {mg : Str → Option Value} {fa : Addr} (X : K.In h) (G : h.Ns mainGlobals mg) (hfa : mg "law" = some (.ref fa))
    {f_l_kinds : Addr} {od_l_kinds an_l_kinds : Option Addr} {sl_l_kinds : Array (Option Value)} {oc_l_kinds kV_l_kinds dc_l_kinds pm_l_kinds cd_l_kinds ct_l_kinds : Value}
    (a_l_kinds : PySem.W.nsIn K mainGlobals "_law_kinds" = some (some (.ref f_l_kinds))) (l_l_kinds : K.lookup f_l_kinds = some ⟨oc_l_kinds, od_l_kinds, .func (PySem.W.fnOf "_law_kinds" "_law_kinds" (defArgs s_l_kinds) (defBody s_l_kinds) (defScope s_l_kinds) .none kV_l_kinds dc_l_kinds pm_l_kinds an_l_kinds cd_l_kinds ct_l_kinds), sl_l_kinds⟩) (c_l_kinds : PySem.W.codeIn K cd_l_kinds "_law_kinds" = true) (k_l_kinds' : PySem.W.keepIn K (.ref f_l_kinds) = true)
    {f_l_apart : Addr} {od_l_apart an_l_apart : Option Addr} {sl_l_apart : Array (Option Value)} {oc_l_apart kV_l_apart dc_l_apart pm_l_apart cd_l_apart ct_l_apart : Value}
    (a_l_apart : PySem.W.nsIn K mainGlobals "_law_apart" = some (some (.ref f_l_apart))) (l_l_apart : K.lookup f_l_apart = some ⟨oc_l_apart, od_l_apart, .func (PySem.W.fnOf "_law_apart" "_law_apart" (defArgs s_l_apart) (defBody s_l_apart) (defScope s_l_apart) .none kV_l_apart dc_l_apart pm_l_apart an_l_apart cd_l_apart ct_l_apart), sl_l_apart⟩) (c_l_apart : PySem.W.codeIn K cd_l_apart "_law_apart" = true) (k_l_apart' : PySem.W.keepIn K (.ref f_l_apart) = true)
    {f_l_pool : Addr} {od_l_pool an_l_pool : Option Addr} {sl_l_pool : Array (Option Value)} {oc_l_pool kV_l_pool dc_l_pool pm_l_pool cd_l_pool ct_l_pool : Value}
    (a_l_pool : PySem.W.nsIn K mainGlobals "_law_pool" = some (some (.ref f_l_pool))) (l_l_pool : K.lookup f_l_pool = some ⟨oc_l_pool, od_l_pool, .func (PySem.W.fnOf "_law_pool" "_law_pool" (defArgs s_l_pool) (defBody s_l_pool) (defScope s_l_pool) .none kV_l_pool dc_l_pool pm_l_pool an_l_pool cd_l_pool ct_l_pool), sl_l_pool⟩) (c_l_pool : PySem.W.codeIn K cd_l_pool "_law_pool" = true) (k_l_pool' : PySem.W.keepIn K (.ref f_l_pool) = true)
    {f_l_next : Addr} {od_l_next an_l_next : Option Addr} {sl_l_next : Array (Option Value)} {oc_l_next kV_l_next dc_l_next pm_l_next cd_l_next ct_l_next : Value}
    (a_l_next : PySem.W.nsIn K mainGlobals "_law_next" = some (some (.ref f_l_next))) (l_l_next : K.lookup f_l_next = some ⟨oc_l_next, od_l_next, .func (PySem.W.fnOf "_law_next" "_law_next" (defArgs s_l_next) (defBody s_l_next) (defScope s_l_next) .none kV_l_next dc_l_next pm_l_next an_l_next cd_l_next ct_l_next), sl_l_next⟩) (c_l_next : PySem.W.codeIn K cd_l_next "_law_next" = true) (k_l_next' : PySem.W.keepIn K (.ref f_l_next) = true)
    {f_l_web : Addr} {od_l_web an_l_web : Option Addr} {sl_l_web : Array (Option Value)} {oc_l_web kV_l_web dc_l_web pm_l_web cd_l_web ct_l_web : Value}
    (a_l_web : PySem.W.nsIn K mainGlobals "_law_web" = some (some (.ref f_l_web))) (l_l_web : K.lookup f_l_web = some ⟨oc_l_web, od_l_web, .func (PySem.W.fnOf "_law_web" "_law_web" (defArgs s_l_web) (defBody s_l_web) (defScope s_l_web) .none kV_l_web dc_l_web pm_l_web an_l_web cd_l_web ct_l_web), sl_l_web⟩) (c_l_web : PySem.W.codeIn K cd_l_web "_law_web" = true) (k_l_web' : PySem.W.keepIn K (.ref f_l_web) = true)
    {f_tie_of : Addr} {od_tie_of an_tie_of : Option Addr} {sl_tie_of : Array (Option Value)} {oc_tie_of kV_tie_of dc_tie_of pm_tie_of cd_tie_of ct_tie_of : Value}
    (a_tie_of : PySem.W.nsIn K mainGlobals "tie_of" = some (some (.ref f_tie_of))) (l_tie_of : K.lookup f_tie_of = some ⟨oc_tie_of, od_tie_of, .func (PySem.W.fnOf "tie_of" "tie_of" (defArgs s_tie_of) (defBody s_tie_of) (defScope s_tie_of) .none kV_tie_of dc_tie_of pm_tie_of an_tie_of cd_tie_of ct_tie_of), sl_tie_of⟩) (c_tie_of : PySem.W.codeIn K cd_tie_of "tie_of" = true) (k_tie_of' : PySem.W.keepIn K (.ref f_tie_of) = true)
    {f_drawn_place : Addr} {od_drawn_place an_drawn_place : Option Addr} {sl_drawn_place : Array (Option Value)} {oc_drawn_place kV_drawn_place dc_drawn_place pm_drawn_place cd_drawn_place ct_drawn_place : Value}
    (a_drawn_place : PySem.W.nsIn K mainGlobals "drawn_place" = some (some (.ref f_drawn_place))) (l_drawn_place : K.lookup f_drawn_place = some ⟨oc_drawn_place, od_drawn_place, .func (PySem.W.fnOf "drawn_place" "drawn_place" (defArgs s_drawn_place) (defBody s_drawn_place) (defScope s_drawn_place) .none kV_drawn_place dc_drawn_place pm_drawn_place an_drawn_place cd_drawn_place ct_drawn_place), sl_drawn_place⟩) (c_drawn_place : PySem.W.codeIn K cd_drawn_place "drawn_place" = true) (k_drawn_place' : PySem.W.keepIn K (.ref f_drawn_place) = true)
    {f_drawn : Addr} {od_drawn an_drawn : Option Addr} {sl_drawn : Array (Option Value)} {oc_drawn kV_drawn dc_drawn pm_drawn cd_drawn ct_drawn : Value}
    (a_drawn : PySem.W.nsIn K mainGlobals "drawn" = some (some (.ref f_drawn))) (l_drawn : K.lookup f_drawn = some ⟨oc_drawn, od_drawn, .func (PySem.W.fnOf "drawn" "drawn" (defArgs s_drawn) (defBody s_drawn) (defScope s_drawn) .none kV_drawn dc_drawn pm_drawn an_drawn cd_drawn ct_drawn), sl_drawn⟩) (c_drawn : PySem.W.codeIn K cd_drawn "drawn" = true) (k_drawn' : PySem.W.keepIn K (.ref f_drawn) = true)
    {f_l_due : Addr} {od_l_due an_l_due : Option Addr} {sl_l_due : Array (Option Value)} {oc_l_due kV_l_due dc_l_due pm_l_due cd_l_due ct_l_due : Value}
    (a_l_due : PySem.W.nsIn K mainGlobals "_law_due" = some (some (.ref f_l_due))) (l_l_due : K.lookup f_l_due = some ⟨oc_l_due, od_l_due, .func (PySem.W.fnOf "_law_due" "_law_due" (defArgs s_l_due) (defBody s_l_due) (defScope s_l_due) .none kV_l_due dc_l_due pm_l_due an_l_due cd_l_due ct_l_due), sl_l_due⟩) (c_l_due : PySem.W.codeIn K cd_l_due "_law_due" = true) (k_l_due' : PySem.W.keepIn K (.ref f_l_due) = true)
    {f_is_tied : Addr} {od_is_tied an_is_tied : Option Addr} {sl_is_tied : Array (Option Value)} {oc_is_tied kV_is_tied dc_is_tied pm_is_tied cd_is_tied ct_is_tied : Value}
    (a_is_tied : PySem.W.nsIn K mainGlobals "is_tied" = some (some (.ref f_is_tied))) (l_is_tied : K.lookup f_is_tied = some ⟨oc_is_tied, od_is_tied, .func (PySem.W.fnOf "is_tied" "is_tied" (defArgs s_is_tied) (defBody s_is_tied) (defScope s_is_tied) .none kV_is_tied dc_is_tied pm_is_tied an_is_tied cd_is_tied ct_is_tied), sl_is_tied⟩) (c_is_tied : PySem.W.codeIn K cd_is_tied "is_tied" = true) (k_is_tied' : PySem.W.keepIn K (.ref f_is_tied) = true)
    {f_with_tie : Addr} {od_with_tie an_with_tie : Option Addr} {sl_with_tie : Array (Option Value)} {oc_with_tie kV_with_tie dc_with_tie pm_with_tie cd_with_tie ct_with_tie : Value}
    (a_with_tie : PySem.W.nsIn K mainGlobals "with_tie" = some (some (.ref f_with_tie))) (l_with_tie : K.lookup f_with_tie = some ⟨oc_with_tie, od_with_tie, .func (PySem.W.fnOf "with_tie" "with_tie" (defArgs s_with_tie) (defBody s_with_tie) (defScope s_with_tie) .none kV_with_tie dc_with_tie pm_with_tie an_with_tie cd_with_tie ct_with_tie), sl_with_tie⟩) (c_with_tie : PySem.W.codeIn K cd_with_tie "with_tie" = true) (k_with_tie' : PySem.W.keepIn K (.ref f_with_tie) = true)
    {f_tied : Addr} {od_tied an_tied : Option Addr} {sl_tied : Array (Option Value)} {oc_tied kV_tied dc_tied pm_tied cd_tied ct_tied : Value}
    (a_tied : PySem.W.nsIn K mainGlobals "tied" = some (some (.ref f_tied))) (l_tied : K.lookup f_tied = some ⟨oc_tied, od_tied, .func (PySem.W.fnOf "tied" "tied" (defArgs s_tied) (defBody s_tied) (defScope s_tied) .none kV_tied dc_tied pm_tied an_tied cd_tied ct_tied), sl_tied⟩) (c_tied : PySem.W.codeIn K cd_tied "tied" = true) (k_tied' : PySem.W.keepIn K (.ref f_tied) = true)
    {f_untied : Addr} {od_untied an_untied : Option Addr} {sl_untied : Array (Option Value)} {oc_untied kV_untied dc_untied pm_untied cd_untied ct_untied : Value}
    (a_untied : PySem.W.nsIn K mainGlobals "untied" = some (some (.ref f_untied))) (l_untied : K.lookup f_untied = some ⟨oc_untied, od_untied, .func (PySem.W.fnOf "untied" "untied" (defArgs s_untied) (defBody s_untied) (defScope s_untied) .none kV_untied dc_untied pm_untied an_untied cd_untied ct_untied), sl_untied⟩) (c_untied : PySem.W.codeIn K cd_untied "untied" = true) (k_untied' : PySem.W.keepIn K (.ref f_untied) = true)
    {f_l_changed : Addr} {od_l_changed an_l_changed : Option Addr} {sl_l_changed : Array (Option Value)} {oc_l_changed kV_l_changed dc_l_changed pm_l_changed cd_l_changed ct_l_changed : Value}
    (a_l_changed : PySem.W.nsIn K mainGlobals "_law_changed" = some (some (.ref f_l_changed))) (l_l_changed : K.lookup f_l_changed = some ⟨oc_l_changed, od_l_changed, .func (PySem.W.fnOf "_law_changed" "_law_changed" (defArgs s_l_changed) (defBody s_l_changed) (defScope s_l_changed) .none kV_l_changed dc_l_changed pm_l_changed an_l_changed cd_l_changed ct_l_changed), sl_l_changed⟩) (c_l_changed : PySem.W.codeIn K cd_l_changed "_law_changed" = true) (k_l_changed' : PySem.W.keepIn K (.ref f_l_changed) = true)
    {f_l_sound : Addr} {od_l_sound an_l_sound : Option Addr} {sl_l_sound : Array (Option Value)} {oc_l_sound kV_l_sound dc_l_sound pm_l_sound cd_l_sound ct_l_sound : Value}
    (a_l_sound : PySem.W.nsIn K mainGlobals "_law_sound" = some (some (.ref f_l_sound))) (l_l_sound : K.lookup f_l_sound = some ⟨oc_l_sound, od_l_sound, .func (PySem.W.fnOf "_law_sound" "_law_sound" (defArgs s_l_sound) (defBody s_l_sound) (defScope s_l_sound) .none kV_l_sound dc_l_sound pm_l_sound an_l_sound cd_l_sound ct_l_sound), sl_l_sound⟩) (c_l_sound : PySem.W.codeIn K cd_l_sound "_law_sound" = true) (k_l_sound' : PySem.W.keepIn K (.ref f_l_sound) = true)
    {f_l_is_web : Addr} {od_l_is_web an_l_is_web : Option Addr} {sl_l_is_web : Array (Option Value)} {oc_l_is_web kV_l_is_web dc_l_is_web pm_l_is_web cd_l_is_web ct_l_is_web : Value}
    (a_l_is_web : PySem.W.nsIn K mainGlobals "_law_is_web" = some (some (.ref f_l_is_web))) (l_l_is_web : K.lookup f_l_is_web = some ⟨oc_l_is_web, od_l_is_web, .func (PySem.W.fnOf "_law_is_web" "_law_is_web" (defArgs s_l_is_web) (defBody s_l_is_web) (defScope s_l_is_web) .none kV_l_is_web dc_l_is_web pm_l_is_web an_l_is_web cd_l_is_web ct_l_is_web), sl_l_is_web⟩) (c_l_is_web : PySem.W.codeIn K cd_l_is_web "_law_is_web" = true) (k_l_is_web' : PySem.W.keepIn K (.ref f_l_is_web) = true)
    {f_l_number : Addr} {od_l_number an_l_number : Option Addr} {sl_l_number : Array (Option Value)} {oc_l_number kV_l_number dc_l_number pm_l_number cd_l_number ct_l_number : Value}
    (a_l_number : PySem.W.nsIn K mainGlobals "_law_number" = some (some (.ref f_l_number))) (l_l_number : K.lookup f_l_number = some ⟨oc_l_number, od_l_number, .func (PySem.W.fnOf "_law_number" "_law_number" (defArgs s_l_number) (defBody s_l_number) (defScope s_l_number) .none kV_l_number dc_l_number pm_l_number an_l_number cd_l_number ct_l_number), sl_l_number⟩) (c_l_number : PySem.W.codeIn K cd_l_number "_law_number" = true) (k_l_number' : PySem.W.keepIn K (.ref f_l_number) = true)
    {f_l_due_drawn : Addr} {od_l_due_drawn an_l_due_drawn : Option Addr} {sl_l_due_drawn : Array (Option Value)} {oc_l_due_drawn kV_l_due_drawn dc_l_due_drawn pm_l_due_drawn cd_l_due_drawn ct_l_due_drawn : Value}
    (a_l_due_drawn : PySem.W.nsIn K mainGlobals "_law_due_drawn" = some (some (.ref f_l_due_drawn))) (l_l_due_drawn : K.lookup f_l_due_drawn = some ⟨oc_l_due_drawn, od_l_due_drawn, .func (PySem.W.fnOf "_law_due_drawn" "_law_due_drawn" (defArgs s_l_due_drawn) (defBody s_l_due_drawn) (defScope s_l_due_drawn) .none kV_l_due_drawn dc_l_due_drawn pm_l_due_drawn an_l_due_drawn cd_l_due_drawn ct_l_due_drawn), sl_l_due_drawn⟩) (c_l_due_drawn : PySem.W.codeIn K cd_l_due_drawn "_law_due_drawn" = true) (k_l_due_drawn' : PySem.W.keepIn K (.ref f_l_due_drawn) = true)
    {f_law : Addr} {od_law an_law : Option Addr} {sl_law : Array (Option Value)} {oc_law kV_law dc_law pm_law cd_law ct_law : Value}
    (a_law : PySem.W.nsIn K mainGlobals "law" = some (some (.ref f_law))) (l_law : K.lookup f_law = some ⟨oc_law, od_law, .func (PySem.W.fnOf "law" "law" (defArgs s_law) (defBody s_law) (defScope s_law) .none kV_law dc_law pm_law an_law cd_law ct_law), sl_law⟩) (c_law : PySem.W.codeIn K cd_law "law" = true) (k_law' : PySem.W.keepIn K (.ref f_law) = true)
    {C_Apart C_NoFall C_NoMouth C_NoPast C_NoPlace C_NoRow C_NoSpring C_NoText C_NoTie C_RillError C_SamePlace C_There C_TooMany : Addr}
    (n_Apart : PySem.W.nsIn K mainGlobals "Apart" = some (some (.ref C_Apart)))
    (n_NoFall : PySem.W.nsIn K mainGlobals "NoFall" = some (some (.ref C_NoFall)))
    (n_NoMouth : PySem.W.nsIn K mainGlobals "NoMouth" = some (some (.ref C_NoMouth)))
    (n_NoPast : PySem.W.nsIn K mainGlobals "NoPast" = some (some (.ref C_NoPast)))
    (n_NoPlace : PySem.W.nsIn K mainGlobals "NoPlace" = some (some (.ref C_NoPlace)))
    (n_NoRow : PySem.W.nsIn K mainGlobals "NoRow" = some (some (.ref C_NoRow)))
    (n_NoSpring : PySem.W.nsIn K mainGlobals "NoSpring" = some (some (.ref C_NoSpring)))
    (n_NoText : PySem.W.nsIn K mainGlobals "NoText" = some (some (.ref C_NoText)))
    (n_NoTie : PySem.W.nsIn K mainGlobals "NoTie" = some (some (.ref C_NoTie)))
    (n_RillError : PySem.W.nsIn K mainGlobals "RillError" = some (some (.ref C_RillError)))
    (n_SamePlace : PySem.W.nsIn K mainGlobals "SamePlace" = some (some (.ref C_SamePlace)))
    (n_There : PySem.W.nsIn K mainGlobals "There" = some (some (.ref C_There)))
    (n_TooMany : PySem.W.nsIn K mainGlobals "TooMany" = some (some (.ref C_TooMany)))
    (t_k_Apart : PySem.W.keepIn K (.ref C_Apart) = true)
    (t_bs_Apart : PySem.W.subIn K (.ref C_Apart) (.type "BaseException") = some true)
    (t_ty_Apart : PySem.W.typeIn K (.ref C_Apart) = some (.type "type"))
    (t_is_Apart : PySem.W.isClsIn K C_Apart = true)
    (t_hd_Apart : PySem.W.hasDictIn K C_Apart = true)
    (t_sf_Apart : PySem.W.subIn K (.ref C_Apart) (.ref C_Apart) = some true)
    (t_k_NoFall : PySem.W.keepIn K (.ref C_NoFall) = true)
    (t_bs_NoFall : PySem.W.subIn K (.ref C_NoFall) (.type "BaseException") = some true)
    (t_ty_NoFall : PySem.W.typeIn K (.ref C_NoFall) = some (.type "type"))
    (t_is_NoFall : PySem.W.isClsIn K C_NoFall = true)
    (t_hd_NoFall : PySem.W.hasDictIn K C_NoFall = true)
    (t_sf_NoFall : PySem.W.subIn K (.ref C_NoFall) (.ref C_NoFall) = some true)
    (t_k_NoMouth : PySem.W.keepIn K (.ref C_NoMouth) = true)
    (t_bs_NoMouth : PySem.W.subIn K (.ref C_NoMouth) (.type "BaseException") = some true)
    (t_ty_NoMouth : PySem.W.typeIn K (.ref C_NoMouth) = some (.type "type"))
    (t_is_NoMouth : PySem.W.isClsIn K C_NoMouth = true)
    (t_hd_NoMouth : PySem.W.hasDictIn K C_NoMouth = true)
    (t_sf_NoMouth : PySem.W.subIn K (.ref C_NoMouth) (.ref C_NoMouth) = some true)
    (t_k_NoPast : PySem.W.keepIn K (.ref C_NoPast) = true)
    (t_bs_NoPast : PySem.W.subIn K (.ref C_NoPast) (.type "BaseException") = some true)
    (t_ty_NoPast : PySem.W.typeIn K (.ref C_NoPast) = some (.type "type"))
    (t_is_NoPast : PySem.W.isClsIn K C_NoPast = true)
    (t_hd_NoPast : PySem.W.hasDictIn K C_NoPast = true)
    (t_sf_NoPast : PySem.W.subIn K (.ref C_NoPast) (.ref C_NoPast) = some true)
    (t_k_NoPlace : PySem.W.keepIn K (.ref C_NoPlace) = true)
    (t_bs_NoPlace : PySem.W.subIn K (.ref C_NoPlace) (.type "BaseException") = some true)
    (t_ty_NoPlace : PySem.W.typeIn K (.ref C_NoPlace) = some (.type "type"))
    (t_is_NoPlace : PySem.W.isClsIn K C_NoPlace = true)
    (t_hd_NoPlace : PySem.W.hasDictIn K C_NoPlace = true)
    (t_sf_NoPlace : PySem.W.subIn K (.ref C_NoPlace) (.ref C_NoPlace) = some true)
    (t_k_NoRow : PySem.W.keepIn K (.ref C_NoRow) = true)
    (t_bs_NoRow : PySem.W.subIn K (.ref C_NoRow) (.type "BaseException") = some true)
    (t_ty_NoRow : PySem.W.typeIn K (.ref C_NoRow) = some (.type "type"))
    (t_is_NoRow : PySem.W.isClsIn K C_NoRow = true)
    (t_hd_NoRow : PySem.W.hasDictIn K C_NoRow = true)
    (t_sf_NoRow : PySem.W.subIn K (.ref C_NoRow) (.ref C_NoRow) = some true)
    (t_k_NoSpring : PySem.W.keepIn K (.ref C_NoSpring) = true)
    (t_bs_NoSpring : PySem.W.subIn K (.ref C_NoSpring) (.type "BaseException") = some true)
    (t_ty_NoSpring : PySem.W.typeIn K (.ref C_NoSpring) = some (.type "type"))
    (t_is_NoSpring : PySem.W.isClsIn K C_NoSpring = true)
    (t_hd_NoSpring : PySem.W.hasDictIn K C_NoSpring = true)
    (t_sf_NoSpring : PySem.W.subIn K (.ref C_NoSpring) (.ref C_NoSpring) = some true)
    (t_k_NoText : PySem.W.keepIn K (.ref C_NoText) = true)
    (t_bs_NoText : PySem.W.subIn K (.ref C_NoText) (.type "BaseException") = some true)
    (t_ty_NoText : PySem.W.typeIn K (.ref C_NoText) = some (.type "type"))
    (t_is_NoText : PySem.W.isClsIn K C_NoText = true)
    (t_hd_NoText : PySem.W.hasDictIn K C_NoText = true)
    (t_sf_NoText : PySem.W.subIn K (.ref C_NoText) (.ref C_NoText) = some true)
    (t_k_NoTie : PySem.W.keepIn K (.ref C_NoTie) = true)
    (t_bs_NoTie : PySem.W.subIn K (.ref C_NoTie) (.type "BaseException") = some true)
    (t_ty_NoTie : PySem.W.typeIn K (.ref C_NoTie) = some (.type "type"))
    (t_is_NoTie : PySem.W.isClsIn K C_NoTie = true)
    (t_hd_NoTie : PySem.W.hasDictIn K C_NoTie = true)
    (t_sf_NoTie : PySem.W.subIn K (.ref C_NoTie) (.ref C_NoTie) = some true)
    (t_k_RillError : PySem.W.keepIn K (.ref C_RillError) = true)
    (t_bs_RillError : PySem.W.subIn K (.ref C_RillError) (.type "BaseException") = some true)
    (t_ty_RillError : PySem.W.typeIn K (.ref C_RillError) = some (.type "type"))
    (t_is_RillError : PySem.W.isClsIn K C_RillError = true)
    (t_hd_RillError : PySem.W.hasDictIn K C_RillError = true)
    (t_sf_RillError : PySem.W.subIn K (.ref C_RillError) (.ref C_RillError) = some true)
    (t_k_SamePlace : PySem.W.keepIn K (.ref C_SamePlace) = true)
    (t_bs_SamePlace : PySem.W.subIn K (.ref C_SamePlace) (.type "BaseException") = some true)
    (t_ty_SamePlace : PySem.W.typeIn K (.ref C_SamePlace) = some (.type "type"))
    (t_is_SamePlace : PySem.W.isClsIn K C_SamePlace = true)
    (t_hd_SamePlace : PySem.W.hasDictIn K C_SamePlace = true)
    (t_sf_SamePlace : PySem.W.subIn K (.ref C_SamePlace) (.ref C_SamePlace) = some true)
    (t_k_There : PySem.W.keepIn K (.ref C_There) = true)
    (t_bs_There : PySem.W.subIn K (.ref C_There) (.type "BaseException") = some true)
    (t_ty_There : PySem.W.typeIn K (.ref C_There) = some (.type "type"))
    (t_is_There : PySem.W.isClsIn K C_There = true)
    (t_hd_There : PySem.W.hasDictIn K C_There = true)
    (t_sf_There : PySem.W.subIn K (.ref C_There) (.ref C_There) = some true)
    (t_k_TooMany : PySem.W.keepIn K (.ref C_TooMany) = true)
    (t_bs_TooMany : PySem.W.subIn K (.ref C_TooMany) (.type "BaseException") = some true)
    (t_ty_TooMany : PySem.W.typeIn K (.ref C_TooMany) = some (.type "type"))
    (t_is_TooMany : PySem.W.isClsIn K C_TooMany = true)
    (t_hd_TooMany : PySem.W.hasDictIn K C_TooMany = true)
    (t_sf_TooMany : PySem.W.subIn K (.ref C_TooMany) (.ref C_TooMany) = some true)
    (t_ga_Apart : PySem.W.findIn K (.ref C_Apart) "__getattribute__" = some (some (.builtin "BaseException.__getattribute__")))
    (t_gg_Apart : PySem.W.findIn K (.ref C_Apart) "__getattr__" = some none)
    (t_gc_Apart : PySem.W.findIn K (.ref C_Apart) "__class__" = some (some (.builtin "object.__class__")))
    (t_mo_Apart : PySem.W.mroIn K C_Apart (.type "object") = some true)
    (t_ga_NoFall : PySem.W.findIn K (.ref C_NoFall) "__getattribute__" = some (some (.builtin "BaseException.__getattribute__")))
    (t_gg_NoFall : PySem.W.findIn K (.ref C_NoFall) "__getattr__" = some none)
    (t_gc_NoFall : PySem.W.findIn K (.ref C_NoFall) "__class__" = some (some (.builtin "object.__class__")))
    (t_mo_NoFall : PySem.W.mroIn K C_NoFall (.type "object") = some true)
    (t_ga_NoMouth : PySem.W.findIn K (.ref C_NoMouth) "__getattribute__" = some (some (.builtin "BaseException.__getattribute__")))
    (t_gg_NoMouth : PySem.W.findIn K (.ref C_NoMouth) "__getattr__" = some none)
    (t_gc_NoMouth : PySem.W.findIn K (.ref C_NoMouth) "__class__" = some (some (.builtin "object.__class__")))
    (t_mo_NoMouth : PySem.W.mroIn K C_NoMouth (.type "object") = some true)
    (t_ga_NoPast : PySem.W.findIn K (.ref C_NoPast) "__getattribute__" = some (some (.builtin "BaseException.__getattribute__")))
    (t_gg_NoPast : PySem.W.findIn K (.ref C_NoPast) "__getattr__" = some none)
    (t_gc_NoPast : PySem.W.findIn K (.ref C_NoPast) "__class__" = some (some (.builtin "object.__class__")))
    (t_mo_NoPast : PySem.W.mroIn K C_NoPast (.type "object") = some true)
    (t_ga_NoPlace : PySem.W.findIn K (.ref C_NoPlace) "__getattribute__" = some (some (.builtin "BaseException.__getattribute__")))
    (t_gg_NoPlace : PySem.W.findIn K (.ref C_NoPlace) "__getattr__" = some none)
    (t_gc_NoPlace : PySem.W.findIn K (.ref C_NoPlace) "__class__" = some (some (.builtin "object.__class__")))
    (t_mo_NoPlace : PySem.W.mroIn K C_NoPlace (.type "object") = some true)
    (t_ga_NoRow : PySem.W.findIn K (.ref C_NoRow) "__getattribute__" = some (some (.builtin "BaseException.__getattribute__")))
    (t_gg_NoRow : PySem.W.findIn K (.ref C_NoRow) "__getattr__" = some none)
    (t_gc_NoRow : PySem.W.findIn K (.ref C_NoRow) "__class__" = some (some (.builtin "object.__class__")))
    (t_mo_NoRow : PySem.W.mroIn K C_NoRow (.type "object") = some true)
    (t_ga_NoSpring : PySem.W.findIn K (.ref C_NoSpring) "__getattribute__" = some (some (.builtin "BaseException.__getattribute__")))
    (t_gg_NoSpring : PySem.W.findIn K (.ref C_NoSpring) "__getattr__" = some none)
    (t_gc_NoSpring : PySem.W.findIn K (.ref C_NoSpring) "__class__" = some (some (.builtin "object.__class__")))
    (t_mo_NoSpring : PySem.W.mroIn K C_NoSpring (.type "object") = some true)
    (t_ga_NoText : PySem.W.findIn K (.ref C_NoText) "__getattribute__" = some (some (.builtin "BaseException.__getattribute__")))
    (t_gg_NoText : PySem.W.findIn K (.ref C_NoText) "__getattr__" = some none)
    (t_gc_NoText : PySem.W.findIn K (.ref C_NoText) "__class__" = some (some (.builtin "object.__class__")))
    (t_mo_NoText : PySem.W.mroIn K C_NoText (.type "object") = some true)
    (t_ga_NoTie : PySem.W.findIn K (.ref C_NoTie) "__getattribute__" = some (some (.builtin "BaseException.__getattribute__")))
    (t_gg_NoTie : PySem.W.findIn K (.ref C_NoTie) "__getattr__" = some none)
    (t_gc_NoTie : PySem.W.findIn K (.ref C_NoTie) "__class__" = some (some (.builtin "object.__class__")))
    (t_mo_NoTie : PySem.W.mroIn K C_NoTie (.type "object") = some true)
    (t_ga_RillError : PySem.W.findIn K (.ref C_RillError) "__getattribute__" = some (some (.builtin "BaseException.__getattribute__")))
    (t_gg_RillError : PySem.W.findIn K (.ref C_RillError) "__getattr__" = some none)
    (t_gc_RillError : PySem.W.findIn K (.ref C_RillError) "__class__" = some (some (.builtin "object.__class__")))
    (t_mo_RillError : PySem.W.mroIn K C_RillError (.type "object") = some true)
    (t_ga_SamePlace : PySem.W.findIn K (.ref C_SamePlace) "__getattribute__" = some (some (.builtin "BaseException.__getattribute__")))
    (t_gg_SamePlace : PySem.W.findIn K (.ref C_SamePlace) "__getattr__" = some none)
    (t_gc_SamePlace : PySem.W.findIn K (.ref C_SamePlace) "__class__" = some (some (.builtin "object.__class__")))
    (t_mo_SamePlace : PySem.W.mroIn K C_SamePlace (.type "object") = some true)
    (t_ga_There : PySem.W.findIn K (.ref C_There) "__getattribute__" = some (some (.builtin "BaseException.__getattribute__")))
    (t_gg_There : PySem.W.findIn K (.ref C_There) "__getattr__" = some none)
    (t_gc_There : PySem.W.findIn K (.ref C_There) "__class__" = some (some (.builtin "object.__class__")))
    (t_mo_There : PySem.W.mroIn K C_There (.type "object") = some true)
    (t_ga_TooMany : PySem.W.findIn K (.ref C_TooMany) "__getattribute__" = some (some (.builtin "BaseException.__getattribute__")))
    (t_gg_TooMany : PySem.W.findIn K (.ref C_TooMany) "__getattr__" = some none)
    (t_gc_TooMany : PySem.W.findIn K (.ref C_TooMany) "__class__" = some (some (.builtin "object.__class__")))
    (t_mo_TooMany : PySem.W.mroIn K C_TooMany (.type "object") = some true)
    (t_ek_Apart : clsOf K "Apart" = some C_Apart)
    (t_et_Apart : (["NoneType", "bool", "int", "str", "list", "tuple", "dict"].all fun t => PySem.W.kitOne K (.ref C_Apart) (.type t) == some false) = true)
    (t_ek_NoFall : clsOf K "NoFall" = some C_NoFall)
    (t_et_NoFall : (["NoneType", "bool", "int", "str", "list", "tuple", "dict"].all fun t => PySem.W.kitOne K (.ref C_NoFall) (.type t) == some false) = true)
    (t_ek_NoMouth : clsOf K "NoMouth" = some C_NoMouth)
    (t_et_NoMouth : (["NoneType", "bool", "int", "str", "list", "tuple", "dict"].all fun t => PySem.W.kitOne K (.ref C_NoMouth) (.type t) == some false) = true)
    (t_ek_NoPast : clsOf K "NoPast" = some C_NoPast)
    (t_et_NoPast : (["NoneType", "bool", "int", "str", "list", "tuple", "dict"].all fun t => PySem.W.kitOne K (.ref C_NoPast) (.type t) == some false) = true)
    (t_ek_NoPlace : clsOf K "NoPlace" = some C_NoPlace)
    (t_et_NoPlace : (["NoneType", "bool", "int", "str", "list", "tuple", "dict"].all fun t => PySem.W.kitOne K (.ref C_NoPlace) (.type t) == some false) = true)
    (t_ek_NoRow : clsOf K "NoRow" = some C_NoRow)
    (t_et_NoRow : (["NoneType", "bool", "int", "str", "list", "tuple", "dict"].all fun t => PySem.W.kitOne K (.ref C_NoRow) (.type t) == some false) = true)
    (t_ek_NoSpring : clsOf K "NoSpring" = some C_NoSpring)
    (t_et_NoSpring : (["NoneType", "bool", "int", "str", "list", "tuple", "dict"].all fun t => PySem.W.kitOne K (.ref C_NoSpring) (.type t) == some false) = true)
    (t_ek_NoText : clsOf K "NoText" = some C_NoText)
    (t_et_NoText : (["NoneType", "bool", "int", "str", "list", "tuple", "dict"].all fun t => PySem.W.kitOne K (.ref C_NoText) (.type t) == some false) = true)
    (t_ek_NoTie : clsOf K "NoTie" = some C_NoTie)
    (t_et_NoTie : (["NoneType", "bool", "int", "str", "list", "tuple", "dict"].all fun t => PySem.W.kitOne K (.ref C_NoTie) (.type t) == some false) = true)
    (t_ek_RillError : clsOf K "RillError" = some C_RillError)
    (t_et_RillError : (["NoneType", "bool", "int", "str", "list", "tuple", "dict"].all fun t => PySem.W.kitOne K (.ref C_RillError) (.type t) == some false) = true)
    (t_ek_SamePlace : clsOf K "SamePlace" = some C_SamePlace)
    (t_et_SamePlace : (["NoneType", "bool", "int", "str", "list", "tuple", "dict"].all fun t => PySem.W.kitOne K (.ref C_SamePlace) (.type t) == some false) = true)
    (t_ek_There : clsOf K "There" = some C_There)
    (t_et_There : (["NoneType", "bool", "int", "str", "list", "tuple", "dict"].all fun t => PySem.W.kitOne K (.ref C_There) (.type t) == some false) = true)
    (t_ek_TooMany : clsOf K "TooMany" = some C_TooMany)
    (t_et_TooMany : (["NoneType", "bool", "int", "str", "list", "tuple", "dict"].all fun t => PySem.W.kitOne K (.ref C_TooMany) (.type t) == some false) = true)
    (t_x_Apart : PySem.W.excIn K C_Apart [.type "ValueError", .type "Exception", .type "BaseException", .type "object"] "ValueError.__new__" = true)
    (t_x_NoFall : PySem.W.excIn K C_NoFall [.type "ValueError", .type "Exception", .type "BaseException", .type "object"] "ValueError.__new__" = true)
    (t_x_NoMouth : PySem.W.excIn K C_NoMouth [.type "ValueError", .type "Exception", .type "BaseException", .type "object"] "ValueError.__new__" = true)
    (t_x_NoPast : PySem.W.excIn K C_NoPast [.type "ValueError", .type "Exception", .type "BaseException", .type "object"] "ValueError.__new__" = true)
    (t_x_NoPlace : PySem.W.excIn K C_NoPlace [.type "ValueError", .type "Exception", .type "BaseException", .type "object"] "ValueError.__new__" = true)
    (t_x_NoRow : PySem.W.excIn K C_NoRow [.type "ValueError", .type "Exception", .type "BaseException", .type "object"] "ValueError.__new__" = true)
    (t_x_NoSpring : PySem.W.excIn K C_NoSpring [.type "ValueError", .type "Exception", .type "BaseException", .type "object"] "ValueError.__new__" = true)
    (t_x_NoText : PySem.W.excIn K C_NoText [.type "ValueError", .type "Exception", .type "BaseException", .type "object"] "ValueError.__new__" = true)
    (t_x_NoTie : PySem.W.excIn K C_NoTie [.type "ValueError", .type "Exception", .type "BaseException", .type "object"] "ValueError.__new__" = true)
    (t_x_RillError : PySem.W.excIn K C_RillError [.type "ValueError", .type "Exception", .type "BaseException", .type "object"] "ValueError.__new__" = true)
    (t_x_SamePlace : PySem.W.excIn K C_SamePlace [.type "ValueError", .type "Exception", .type "BaseException", .type "object"] "ValueError.__new__" = true)
    (t_x_There : PySem.W.excIn K C_There [.type "ValueError", .type "Exception", .type "BaseException", .type "object"] "ValueError.__new__" = true)
    (t_x_TooMany : PySem.W.excIn K C_TooMany [.type "ValueError", .type "Exception", .type "BaseException", .type "object"] "ValueError.__new__" = true)
    (t_su_NoTie_RillError : PySem.W.subIn K (.ref C_NoTie) (.ref C_RillError) = some true)
    (t_su_There_RillError : PySem.W.subIn K (.ref C_There) (.ref C_RillError) = some true)
    (t_su_TooMany_RillError : PySem.W.subIn K (.ref C_TooMany) (.ref C_RillError) = some true)
    (t_tb_Apart : tabOkB K (.ref C_Apart) [("RillError", false), ("TooMany", false), ("There", false), ("NoTie", false), ("NoSpring", false), ("NoMouth", false), ("Apart", true), ("SamePlace", false), ("NoText", false), ("NoRow", false), ("NoPlace", false), ("NoFall", false), ("NoPast", false)] = true)
    (t_tb_NoFall : tabOkB K (.ref C_NoFall) [("RillError", false), ("TooMany", false), ("There", false), ("NoTie", false), ("NoSpring", false), ("NoMouth", false), ("Apart", false), ("SamePlace", false), ("NoText", false), ("NoRow", false), ("NoPlace", false), ("NoFall", true), ("NoPast", false)] = true)
    (t_tb_NoMouth : tabOkB K (.ref C_NoMouth) [("RillError", false), ("TooMany", false), ("There", false), ("NoTie", false), ("NoSpring", false), ("NoMouth", true), ("Apart", false), ("SamePlace", false), ("NoText", false), ("NoRow", false), ("NoPlace", false), ("NoFall", false), ("NoPast", false)] = true)
    (t_tb_NoPast : tabOkB K (.ref C_NoPast) [("RillError", false), ("TooMany", false), ("There", false), ("NoTie", false), ("NoSpring", false), ("NoMouth", false), ("Apart", false), ("SamePlace", false), ("NoText", false), ("NoRow", false), ("NoPlace", false), ("NoFall", false), ("NoPast", true)] = true)
    (t_tb_NoPlace : tabOkB K (.ref C_NoPlace) [("RillError", false), ("TooMany", false), ("There", false), ("NoTie", false), ("NoSpring", false), ("NoMouth", false), ("Apart", false), ("SamePlace", false), ("NoText", false), ("NoRow", false), ("NoPlace", true), ("NoFall", false), ("NoPast", false)] = true)
    (t_tb_NoRow : tabOkB K (.ref C_NoRow) [("RillError", false), ("TooMany", false), ("There", false), ("NoTie", false), ("NoSpring", false), ("NoMouth", false), ("Apart", false), ("SamePlace", false), ("NoText", false), ("NoRow", true), ("NoPlace", false), ("NoFall", false), ("NoPast", false)] = true)
    (t_tb_NoSpring : tabOkB K (.ref C_NoSpring) [("RillError", false), ("TooMany", false), ("There", false), ("NoTie", false), ("NoSpring", true), ("NoMouth", false), ("Apart", false), ("SamePlace", false), ("NoText", false), ("NoRow", false), ("NoPlace", false), ("NoFall", false), ("NoPast", false)] = true)
    (t_tb_NoText : tabOkB K (.ref C_NoText) [("RillError", false), ("TooMany", false), ("There", false), ("NoTie", false), ("NoSpring", false), ("NoMouth", false), ("Apart", false), ("SamePlace", false), ("NoText", true), ("NoRow", false), ("NoPlace", false), ("NoFall", false), ("NoPast", false)] = true)
    (t_tb_NoTie : tabOkB K (.ref C_NoTie) [("RillError", false), ("TooMany", false), ("There", false), ("NoTie", true), ("NoSpring", false), ("NoMouth", false), ("Apart", false), ("SamePlace", false), ("NoText", false), ("NoRow", false), ("NoPlace", false), ("NoFall", false), ("NoPast", false)] = true)
    (t_tb_RillError : tabOkB K (.ref C_RillError) [("RillError", true), ("TooMany", true), ("There", true), ("NoTie", true), ("NoSpring", true), ("NoMouth", true), ("Apart", true), ("SamePlace", true), ("NoText", true), ("NoRow", true), ("NoPlace", true), ("NoFall", true), ("NoPast", true)] = true)
    (t_tb_SamePlace : tabOkB K (.ref C_SamePlace) [("RillError", false), ("TooMany", false), ("There", false), ("NoTie", false), ("NoSpring", false), ("NoMouth", false), ("Apart", false), ("SamePlace", true), ("NoText", false), ("NoRow", false), ("NoPlace", false), ("NoFall", false), ("NoPast", false)] = true)
    (t_tb_There : tabOkB K (.ref C_There) [("RillError", false), ("TooMany", false), ("There", true), ("NoTie", false), ("NoSpring", false), ("NoMouth", false), ("Apart", false), ("SamePlace", false), ("NoText", false), ("NoRow", false), ("NoPlace", false), ("NoFall", false), ("NoPast", false)] = true)
    (t_tb_TooMany : tabOkB K (.ref C_TooMany) [("RillError", false), ("TooMany", true), ("There", false), ("NoTie", false), ("NoSpring", false), ("NoMouth", false), ("Apart", false), ("SamePlace", false), ("NoText", false), ("NoRow", false), ("NoPlace", false), ("NoFall", false), ("NoPast", false)] = true)
    (t_tb_ValueError : tabOkB K (.type "ValueError") [("RillError", true), ("TooMany", true), ("There", true), ("NoTie", true), ("NoSpring", true), ("NoMouth", true), ("Apart", true), ("SamePlace", true), ("NoText", true), ("NoRow", true), ("NoPlace", true), ("NoFall", true), ("NoPast", true)] = true)
    (t_sp0 : PySem.W.specialIn K (.builtin "object.__class__") "__get__" = some (some (.builtin "getset_descriptor.__get__")))
    (t_tk0 : PySem.W.takesIn K (.builtin "object.__class__") = some true)
    (z_ValueError : PySem.W.nsIn K mainGlobals "ValueError" = some none)
    (z_bool : PySem.W.nsIn K mainGlobals "bool" = some none)
    (z_int : PySem.W.nsIn K mainGlobals "int" = some none)
    (z_isinstance : PySem.W.nsIn K mainGlobals "isinstance" = some none)
    (z_len : PySem.W.nsIn K mainGlobals "len" = some none)
    (z_max : PySem.W.nsIn K mainGlobals "max" = some none)
    (z_min : PySem.W.nsIn K mainGlobals "min" = some none)
    (z_range : PySem.W.nsIn K mainGlobals "range" = some none)
    (z_sorted : PySem.W.nsIn K mainGlobals "sorted" = some none)
    (z_tuple : PySem.W.nsIn K mainGlobals "tuple" = some none)
    {k0_MOST_TIES : Tok} (y_MOST_TIES : PySem.W.nsIn K mainGlobals "MOST_TIES" = some (some (.int 20 k0_MOST_TIES)))
    : ∃ fd : FuncData, (∀ (s : Shared) (v : Value), BindsTo s fd ⟨[v], []⟩ [("script", v)]) ∧ ∀ base : Heap, K.In base → base.Ns mainGlobals mg → FnOk l.prog w K mg base CX0 5 fa fd ["script"] (spOfL K [.rd] .fz lawS) := by
  have e := hfa.symm.trans (PySem.W.mg_of X G a_law)
  cases e
  have T : TX K mg C_Apart C_NoFall C_NoMouth C_NoPast C_NoPlace C_NoRow C_NoSpring C_NoText C_NoTie C_RillError C_SamePlace C_There C_TooMany := ⟨PySem.W.mg_of X G n_Apart, PySem.W.mg_of X G n_NoFall, PySem.W.mg_of X G n_NoMouth, PySem.W.mg_of X G n_NoPast, PySem.W.mg_of X G n_NoPlace, PySem.W.mg_of X G n_NoRow, PySem.W.mg_of X G n_NoSpring, PySem.W.mg_of X G n_NoText, PySem.W.mg_of X G n_NoTie, PySem.W.mg_of X G n_RillError, PySem.W.mg_of X G n_SamePlace, PySem.W.mg_of X G n_There, PySem.W.mg_of X G n_TooMany, t_k_Apart, t_bs_Apart, t_ty_Apart, t_is_Apart, t_hd_Apart, t_sf_Apart, t_k_NoFall, t_bs_NoFall, t_ty_NoFall, t_is_NoFall, t_hd_NoFall, t_sf_NoFall, t_k_NoMouth, t_bs_NoMouth, t_ty_NoMouth, t_is_NoMouth, t_hd_NoMouth, t_sf_NoMouth, t_k_NoPast, t_bs_NoPast, t_ty_NoPast, t_is_NoPast, t_hd_NoPast, t_sf_NoPast, t_k_NoPlace, t_bs_NoPlace, t_ty_NoPlace, t_is_NoPlace, t_hd_NoPlace, t_sf_NoPlace, t_k_NoRow, t_bs_NoRow, t_ty_NoRow, t_is_NoRow, t_hd_NoRow, t_sf_NoRow, t_k_NoSpring, t_bs_NoSpring, t_ty_NoSpring, t_is_NoSpring, t_hd_NoSpring, t_sf_NoSpring, t_k_NoText, t_bs_NoText, t_ty_NoText, t_is_NoText, t_hd_NoText, t_sf_NoText, t_k_NoTie, t_bs_NoTie, t_ty_NoTie, t_is_NoTie, t_hd_NoTie, t_sf_NoTie, t_k_RillError, t_bs_RillError, t_ty_RillError, t_is_RillError, t_hd_RillError, t_sf_RillError, t_k_SamePlace, t_bs_SamePlace, t_ty_SamePlace, t_is_SamePlace, t_hd_SamePlace, t_sf_SamePlace, t_k_There, t_bs_There, t_ty_There, t_is_There, t_hd_There, t_sf_There, t_k_TooMany, t_bs_TooMany, t_ty_TooMany, t_is_TooMany, t_hd_TooMany, t_sf_TooMany, t_ga_Apart, t_gg_Apart, t_gc_Apart, t_mo_Apart, t_ga_NoFall, t_gg_NoFall, t_gc_NoFall, t_mo_NoFall, t_ga_NoMouth, t_gg_NoMouth, t_gc_NoMouth, t_mo_NoMouth, t_ga_NoPast, t_gg_NoPast, t_gc_NoPast, t_mo_NoPast, t_ga_NoPlace, t_gg_NoPlace, t_gc_NoPlace, t_mo_NoPlace, t_ga_NoRow, t_gg_NoRow, t_gc_NoRow, t_mo_NoRow, t_ga_NoSpring, t_gg_NoSpring, t_gc_NoSpring, t_mo_NoSpring, t_ga_NoText, t_gg_NoText, t_gc_NoText, t_mo_NoText, t_ga_NoTie, t_gg_NoTie, t_gc_NoTie, t_mo_NoTie, t_ga_RillError, t_gg_RillError, t_gc_RillError, t_mo_RillError, t_ga_SamePlace, t_gg_SamePlace, t_gc_SamePlace, t_mo_SamePlace, t_ga_There, t_gg_There, t_gc_There, t_mo_There, t_ga_TooMany, t_gg_TooMany, t_gc_TooMany, t_mo_TooMany, t_ek_Apart, t_et_Apart, t_ek_NoFall, t_et_NoFall, t_ek_NoMouth, t_et_NoMouth, t_ek_NoPast, t_et_NoPast, t_ek_NoPlace, t_et_NoPlace, t_ek_NoRow, t_et_NoRow, t_ek_NoSpring, t_et_NoSpring, t_ek_NoText, t_et_NoText, t_ek_NoTie, t_et_NoTie, t_ek_RillError, t_et_RillError, t_ek_SamePlace, t_et_SamePlace, t_ek_There, t_et_There, t_ek_TooMany, t_et_TooMany, t_x_Apart, t_x_NoFall, t_x_NoMouth, t_x_NoPast, t_x_NoPlace, t_x_NoRow, t_x_NoSpring, t_x_NoText, t_x_NoTie, t_x_RillError, t_x_SamePlace, t_x_There, t_x_TooMany, t_su_NoTie_RillError, t_su_There_RillError, t_su_TooMany_RillError, t_tb_Apart, t_tb_NoFall, t_tb_NoMouth, t_tb_NoPast, t_tb_NoPlace, t_tb_NoRow, t_tb_NoSpring, t_tb_NoText, t_tb_NoTie, t_tb_RillError, t_tb_SamePlace, t_tb_There, t_tb_TooMany, t_tb_ValueError, t_sp0, t_tk0, PySem.W.mg_none_of X G z_ValueError, PySem.W.mg_none_of X G z_bool, PySem.W.mg_none_of X G z_int, PySem.W.mg_none_of X G z_isinstance, PySem.W.mg_none_of X G z_len, PySem.W.mg_none_of X G z_max, PySem.W.mg_none_of X G z_min, PySem.W.mg_none_of X G z_range, PySem.W.mg_none_of X G z_sorted, PySem.W.mg_none_of X G z_tuple, ⟨_, PySem.W.mg_of X G y_MOST_TIES⟩⟩
  refine ⟨PySem.W.fnOf "law" "law" (defArgs s_law) (defBody s_law) (defScope s_law) .none kV_law dc_law pm_law an_law cd_law ct_law, fun s v => .of_eq rfl, fun base _ _ => ?_⟩
  have H_l_kinds := g_l_kinds (P := l.prog) (w := w) (K := K) (mg := mg) (base := base) T (fun_mk (st := s_l_kinds) l_l_kinds c_l_kinds k_l_kinds') (PySem.W.mg_of X G a_l_kinds)
  have HH_l_kinds := gh_l_kinds (P := l.prog) (w := w) (K := K) (mg := mg) (base := base) T (fun_mk (st := s_l_kinds) l_l_kinds c_l_kinds k_l_kinds') (PySem.W.mg_of X G a_l_kinds)
  have H_l_apart := g_l_apart (P := l.prog) (w := w) (K := K) (mg := mg) (base := base) T H_l_kinds (fun_mk (st := s_l_apart) l_l_apart c_l_apart k_l_apart') (PySem.W.mg_of X G a_l_apart)
  have H_l_pool := g_l_pool (P := l.prog) (w := w) (K := K) (mg := mg) (base := base) T (fun_mk (st := s_l_pool) l_l_pool c_l_pool k_l_pool') (PySem.W.mg_of X G a_l_pool)
  have H_l_next := g_l_next (P := l.prog) (w := w) (K := K) (mg := mg) (base := base) T (fun_mk (st := s_l_next) l_l_next c_l_next k_l_next') (PySem.W.mg_of X G a_l_next)
  have H_l_web := g_l_web (P := l.prog) (w := w) (K := K) (mg := mg) (base := base) T H_l_next (fun_mk (st := s_l_web) l_l_web c_l_web k_l_web') (PySem.W.mg_of X G a_l_web)
  have H_tie_of := g_tie_of (P := l.prog) (w := w) (K := K) (mg := mg) (base := base) T (fun_mk (st := s_tie_of) l_tie_of c_tie_of k_tie_of') (PySem.W.mg_of X G a_tie_of)
  have H_drawn_place := g_drawn_place (P := l.prog) (w := w) (K := K) (mg := mg) (base := base) T (fun_mk (st := s_drawn_place) l_drawn_place c_drawn_place k_drawn_place') (PySem.W.mg_of X G a_drawn_place)
  have H_drawn := g_drawn (P := l.prog) (w := w) (K := K) (mg := mg) (base := base) T H_tie_of H_drawn_place (fun_mk (st := s_drawn) l_drawn c_drawn k_drawn') (PySem.W.mg_of X G a_drawn)
  have H_l_due := g_l_due (P := l.prog) (w := w) (K := K) (mg := mg) (base := base) T (fun_mk (st := s_l_due) l_l_due c_l_due k_l_due') (PySem.W.mg_of X G a_l_due)
  have H_is_tied := g_is_tied (P := l.prog) (w := w) (K := K) (mg := mg) (base := base) T H_tie_of (fun_mk (st := s_is_tied) l_is_tied c_is_tied k_is_tied') (PySem.W.mg_of X G a_is_tied)
  have H_with_tie := g_with_tie (P := l.prog) (w := w) (K := K) (mg := mg) (base := base) T H_tie_of (fun_mk (st := s_with_tie) l_with_tie c_with_tie k_with_tie') (PySem.W.mg_of X G a_with_tie)
  have H_tied := g_tied (P := l.prog) (w := w) (K := K) (mg := mg) (base := base) T H_is_tied H_with_tie (fun_mk (st := s_tied) l_tied c_tied k_tied') (PySem.W.mg_of X G a_tied)
  have H_untied := g_untied (P := l.prog) (w := w) (K := K) (mg := mg) (base := base) T H_is_tied H_tie_of (fun_mk (st := s_untied) l_untied c_untied k_untied') (PySem.W.mg_of X G a_untied)
  have H_l_changed := g_l_changed (P := l.prog) (w := w) (K := K) (mg := mg) (base := base) T H_tied H_untied HH_l_kinds (fun_mk (st := s_l_changed) l_l_changed c_l_changed k_l_changed') (PySem.W.mg_of X G a_l_changed)
  have H_l_sound := g_l_sound (P := l.prog) (w := w) (K := K) (mg := mg) (base := base) T (fun_mk (st := s_l_sound) l_l_sound c_l_sound k_l_sound') (PySem.W.mg_of X G a_l_sound)
  have H_l_is_web := g_l_is_web (P := l.prog) (w := w) (K := K) (mg := mg) (base := base) T H_l_sound (fun_mk (st := s_l_is_web) l_l_is_web c_l_is_web k_l_is_web') (PySem.W.mg_of X G a_l_is_web)
  have H_l_number := g_l_number (P := l.prog) (w := w) (K := K) (mg := mg) (base := base) T (fun_mk (st := s_l_number) l_l_number c_l_number k_l_number') (PySem.W.mg_of X G a_l_number)
  have H_l_due_drawn := g_l_due_drawn (P := l.prog) (w := w) (K := K) (mg := mg) (base := base) T H_l_number (fun_mk (st := s_l_due_drawn) l_l_due_drawn c_l_due_drawn k_l_due_drawn') (PySem.W.mg_of X G a_l_due_drawn)
  exact g_law T H_l_apart H_l_pool H_l_web H_l_next H_drawn H_l_is_web H_l_due_drawn H_l_due H_l_changed (fun_mk (st := s_law) l_law c_law k_law')
end K04
end G7
open PySem PySem.W PyProof.Rows
set_option maxRecDepth 100000 in
set_option maxHeartbeats 0 in
theorem PySem.Challenge.cw_rillturn_k04_drawn_tied_untied_holds : PySem.Challenge.rw_rillturn_k04_drawn_tied_untied.Holds := by
  w_on; o_law; k_head; (case hw => w_witness2)
  k_fill
  refine G7.law_walk (l := PySem.Challenge.rw_rillturn_k04_drawn_tied_untied) (k := 5) rfl rfl ⟨rfl, by decide, by decide⟩ (fun w h Y => PySem.W.kIn_of Y) ?NL ?F
  case NL =>
    intro w
    first | rfl | decide +kernel
  case F =>
    intro w mg fa h KX G hmg
    refine' G7.K04.all_mk KX G hmg ?a_l_kinds ?l_l_kinds ?c_l_kinds ?k_l_kinds' ?a_l_apart ?l_l_apart ?c_l_apart ?k_l_apart' ?a_l_pool ?l_l_pool ?c_l_pool ?k_l_pool' ?a_l_next ?l_l_next ?c_l_next ?k_l_next' ?a_l_web ?l_l_web ?c_l_web ?k_l_web' ?a_tie_of ?l_tie_of ?c_tie_of ?k_tie_of' ?a_drawn_place ?l_drawn_place ?c_drawn_place ?k_drawn_place' ?a_drawn ?l_drawn ?c_drawn ?k_drawn' ?a_l_due ?l_l_due ?c_l_due ?k_l_due' ?a_is_tied ?l_is_tied ?c_is_tied ?k_is_tied' ?a_with_tie ?l_with_tie ?c_with_tie ?k_with_tie' ?a_tied ?l_tied ?c_tied ?k_tied' ?a_untied ?l_untied ?c_untied ?k_untied' ?a_l_changed ?l_l_changed ?c_l_changed ?k_l_changed' ?a_l_sound ?l_l_sound ?c_l_sound ?k_l_sound' ?a_l_is_web ?l_l_is_web ?c_l_is_web ?k_l_is_web' ?a_l_number ?l_l_number ?c_l_number ?k_l_number' ?a_l_due_drawn ?l_l_due_drawn ?c_l_due_drawn ?k_l_due_drawn' ?a_law ?l_law ?c_law ?k_law' ?n_Apart ?n_NoFall ?n_NoMouth ?n_NoPast ?n_NoPlace ?n_NoRow ?n_NoSpring ?n_NoText ?n_NoTie ?n_RillError ?n_SamePlace ?n_There ?n_TooMany ?t_k_Apart ?t_bs_Apart ?t_ty_Apart ?t_is_Apart ?t_hd_Apart ?t_sf_Apart ?t_k_NoFall ?t_bs_NoFall ?t_ty_NoFall ?t_is_NoFall ?t_hd_NoFall ?t_sf_NoFall ?t_k_NoMouth ?t_bs_NoMouth ?t_ty_NoMouth ?t_is_NoMouth ?t_hd_NoMouth ?t_sf_NoMouth ?t_k_NoPast ?t_bs_NoPast ?t_ty_NoPast ?t_is_NoPast ?t_hd_NoPast ?t_sf_NoPast ?t_k_NoPlace ?t_bs_NoPlace ?t_ty_NoPlace ?t_is_NoPlace ?t_hd_NoPlace ?t_sf_NoPlace ?t_k_NoRow ?t_bs_NoRow ?t_ty_NoRow ?t_is_NoRow ?t_hd_NoRow ?t_sf_NoRow ?t_k_NoSpring ?t_bs_NoSpring ?t_ty_NoSpring ?t_is_NoSpring ?t_hd_NoSpring ?t_sf_NoSpring ?t_k_NoText ?t_bs_NoText ?t_ty_NoText ?t_is_NoText ?t_hd_NoText ?t_sf_NoText ?t_k_NoTie ?t_bs_NoTie ?t_ty_NoTie ?t_is_NoTie ?t_hd_NoTie ?t_sf_NoTie ?t_k_RillError ?t_bs_RillError ?t_ty_RillError ?t_is_RillError ?t_hd_RillError ?t_sf_RillError ?t_k_SamePlace ?t_bs_SamePlace ?t_ty_SamePlace ?t_is_SamePlace ?t_hd_SamePlace ?t_sf_SamePlace ?t_k_There ?t_bs_There ?t_ty_There ?t_is_There ?t_hd_There ?t_sf_There ?t_k_TooMany ?t_bs_TooMany ?t_ty_TooMany ?t_is_TooMany ?t_hd_TooMany ?t_sf_TooMany ?t_ga_Apart ?t_gg_Apart ?t_gc_Apart ?t_mo_Apart ?t_ga_NoFall ?t_gg_NoFall ?t_gc_NoFall ?t_mo_NoFall ?t_ga_NoMouth ?t_gg_NoMouth ?t_gc_NoMouth ?t_mo_NoMouth ?t_ga_NoPast ?t_gg_NoPast ?t_gc_NoPast ?t_mo_NoPast ?t_ga_NoPlace ?t_gg_NoPlace ?t_gc_NoPlace ?t_mo_NoPlace ?t_ga_NoRow ?t_gg_NoRow ?t_gc_NoRow ?t_mo_NoRow ?t_ga_NoSpring ?t_gg_NoSpring ?t_gc_NoSpring ?t_mo_NoSpring ?t_ga_NoText ?t_gg_NoText ?t_gc_NoText ?t_mo_NoText ?t_ga_NoTie ?t_gg_NoTie ?t_gc_NoTie ?t_mo_NoTie ?t_ga_RillError ?t_gg_RillError ?t_gc_RillError ?t_mo_RillError ?t_ga_SamePlace ?t_gg_SamePlace ?t_gc_SamePlace ?t_mo_SamePlace ?t_ga_There ?t_gg_There ?t_gc_There ?t_mo_There ?t_ga_TooMany ?t_gg_TooMany ?t_gc_TooMany ?t_mo_TooMany ?t_ek_Apart ?t_et_Apart ?t_ek_NoFall ?t_et_NoFall ?t_ek_NoMouth ?t_et_NoMouth ?t_ek_NoPast ?t_et_NoPast ?t_ek_NoPlace ?t_et_NoPlace ?t_ek_NoRow ?t_et_NoRow ?t_ek_NoSpring ?t_et_NoSpring ?t_ek_NoText ?t_et_NoText ?t_ek_NoTie ?t_et_NoTie ?t_ek_RillError ?t_et_RillError ?t_ek_SamePlace ?t_et_SamePlace ?t_ek_There ?t_et_There ?t_ek_TooMany ?t_et_TooMany ?t_x_Apart ?t_x_NoFall ?t_x_NoMouth ?t_x_NoPast ?t_x_NoPlace ?t_x_NoRow ?t_x_NoSpring ?t_x_NoText ?t_x_NoTie ?t_x_RillError ?t_x_SamePlace ?t_x_There ?t_x_TooMany ?t_su_NoTie_RillError ?t_su_There_RillError ?t_su_TooMany_RillError ?t_tb_Apart ?t_tb_NoFall ?t_tb_NoMouth ?t_tb_NoPast ?t_tb_NoPlace ?t_tb_NoRow ?t_tb_NoSpring ?t_tb_NoText ?t_tb_NoTie ?t_tb_RillError ?t_tb_SamePlace ?t_tb_There ?t_tb_TooMany ?t_tb_ValueError ?t_sp0 ?t_tk0 ?z_ValueError ?z_bool ?z_int ?z_isinstance ?z_len ?z_max ?z_min ?z_range ?z_sorted ?z_tuple ?y_MOST_TIES
    (case a_l_kinds => k_is)
    (case l_l_kinds => k_is)
    (case c_l_kinds => k_is)
    (case k_l_kinds' => k_is)
    (case a_l_apart => k_is)
    (case l_l_apart => k_is)
    (case c_l_apart => k_is)
    (case k_l_apart' => k_is)
    (case a_l_pool => k_is)
    (case l_l_pool => k_is)
    (case c_l_pool => k_is)
    (case k_l_pool' => k_is)
    (case a_l_next => k_is)
    (case l_l_next => k_is)
    (case c_l_next => k_is)
    (case k_l_next' => k_is)
    (case a_l_web => k_is)
    (case l_l_web => k_is)
    (case c_l_web => k_is)
    (case k_l_web' => k_is)
    (case a_tie_of => k_is)
    (case l_tie_of => k_is)
    (case c_tie_of => k_is)
    (case k_tie_of' => k_is)
    (case a_drawn_place => k_is)
    (case l_drawn_place => k_is)
    (case c_drawn_place => k_is)
    (case k_drawn_place' => k_is)
    (case a_drawn => k_is)
    (case l_drawn => k_is)
    (case c_drawn => k_is)
    (case k_drawn' => k_is)
    (case a_l_due => k_is)
    (case l_l_due => k_is)
    (case c_l_due => k_is)
    (case k_l_due' => k_is)
    (case a_is_tied => k_is)
    (case l_is_tied => k_is)
    (case c_is_tied => k_is)
    (case k_is_tied' => k_is)
    (case a_with_tie => k_is)
    (case l_with_tie => k_is)
    (case c_with_tie => k_is)
    (case k_with_tie' => k_is)
    (case a_tied => k_is)
    (case l_tied => k_is)
    (case c_tied => k_is)
    (case k_tied' => k_is)
    (case a_untied => k_is)
    (case l_untied => k_is)
    (case c_untied => k_is)
    (case k_untied' => k_is)
    (case a_l_changed => k_is)
    (case l_l_changed => k_is)
    (case c_l_changed => k_is)
    (case k_l_changed' => k_is)
    (case a_l_sound => k_is)
    (case l_l_sound => k_is)
    (case c_l_sound => k_is)
    (case k_l_sound' => k_is)
    (case a_l_is_web => k_is)
    (case l_l_is_web => k_is)
    (case c_l_is_web => k_is)
    (case k_l_is_web' => k_is)
    (case a_l_number => k_is)
    (case l_l_number => k_is)
    (case c_l_number => k_is)
    (case k_l_number' => k_is)
    (case a_l_due_drawn => k_is)
    (case l_l_due_drawn => k_is)
    (case c_l_due_drawn => k_is)
    (case k_l_due_drawn' => k_is)
    (case a_law => k_is)
    (case l_law => k_is)
    (case c_law => k_is)
    (case k_law' => k_is)
    (case n_Apart => k_is)
    (case n_NoFall => k_is)
    (case n_NoMouth => k_is)
    (case n_NoPast => k_is)
    (case n_NoPlace => k_is)
    (case n_NoRow => k_is)
    (case n_NoSpring => k_is)
    (case n_NoText => k_is)
    (case n_NoTie => k_is)
    (case n_RillError => k_is)
    (case n_SamePlace => k_is)
    (case n_There => k_is)
    (case n_TooMany => k_is)
    (case t_k_Apart => first | rfl | k_is)
    (case t_bs_Apart => first | rfl | k_is)
    (case t_ty_Apart => first | rfl | k_is)
    (case t_is_Apart => first | rfl | k_is)
    (case t_hd_Apart => first | rfl | k_is)
    (case t_sf_Apart => first | rfl | k_is)
    (case t_k_NoFall => first | rfl | k_is)
    (case t_bs_NoFall => first | rfl | k_is)
    (case t_ty_NoFall => first | rfl | k_is)
    (case t_is_NoFall => first | rfl | k_is)
    (case t_hd_NoFall => first | rfl | k_is)
    (case t_sf_NoFall => first | rfl | k_is)
    (case t_k_NoMouth => first | rfl | k_is)
    (case t_bs_NoMouth => first | rfl | k_is)
    (case t_ty_NoMouth => first | rfl | k_is)
    (case t_is_NoMouth => first | rfl | k_is)
    (case t_hd_NoMouth => first | rfl | k_is)
    (case t_sf_NoMouth => first | rfl | k_is)
    (case t_k_NoPast => first | rfl | k_is)
    (case t_bs_NoPast => first | rfl | k_is)
    (case t_ty_NoPast => first | rfl | k_is)
    (case t_is_NoPast => first | rfl | k_is)
    (case t_hd_NoPast => first | rfl | k_is)
    (case t_sf_NoPast => first | rfl | k_is)
    (case t_k_NoPlace => first | rfl | k_is)
    (case t_bs_NoPlace => first | rfl | k_is)
    (case t_ty_NoPlace => first | rfl | k_is)
    (case t_is_NoPlace => first | rfl | k_is)
    (case t_hd_NoPlace => first | rfl | k_is)
    (case t_sf_NoPlace => first | rfl | k_is)
    (case t_k_NoRow => first | rfl | k_is)
    (case t_bs_NoRow => first | rfl | k_is)
    (case t_ty_NoRow => first | rfl | k_is)
    (case t_is_NoRow => first | rfl | k_is)
    (case t_hd_NoRow => first | rfl | k_is)
    (case t_sf_NoRow => first | rfl | k_is)
    (case t_k_NoSpring => first | rfl | k_is)
    (case t_bs_NoSpring => first | rfl | k_is)
    (case t_ty_NoSpring => first | rfl | k_is)
    (case t_is_NoSpring => first | rfl | k_is)
    (case t_hd_NoSpring => first | rfl | k_is)
    (case t_sf_NoSpring => first | rfl | k_is)
    (case t_k_NoText => first | rfl | k_is)
    (case t_bs_NoText => first | rfl | k_is)
    (case t_ty_NoText => first | rfl | k_is)
    (case t_is_NoText => first | rfl | k_is)
    (case t_hd_NoText => first | rfl | k_is)
    (case t_sf_NoText => first | rfl | k_is)
    (case t_k_NoTie => first | rfl | k_is)
    (case t_bs_NoTie => first | rfl | k_is)
    (case t_ty_NoTie => first | rfl | k_is)
    (case t_is_NoTie => first | rfl | k_is)
    (case t_hd_NoTie => first | rfl | k_is)
    (case t_sf_NoTie => first | rfl | k_is)
    (case t_k_RillError => first | rfl | k_is)
    (case t_bs_RillError => first | rfl | k_is)
    (case t_ty_RillError => first | rfl | k_is)
    (case t_is_RillError => first | rfl | k_is)
    (case t_hd_RillError => first | rfl | k_is)
    (case t_sf_RillError => first | rfl | k_is)
    (case t_k_SamePlace => first | rfl | k_is)
    (case t_bs_SamePlace => first | rfl | k_is)
    (case t_ty_SamePlace => first | rfl | k_is)
    (case t_is_SamePlace => first | rfl | k_is)
    (case t_hd_SamePlace => first | rfl | k_is)
    (case t_sf_SamePlace => first | rfl | k_is)
    (case t_k_There => first | rfl | k_is)
    (case t_bs_There => first | rfl | k_is)
    (case t_ty_There => first | rfl | k_is)
    (case t_is_There => first | rfl | k_is)
    (case t_hd_There => first | rfl | k_is)
    (case t_sf_There => first | rfl | k_is)
    (case t_k_TooMany => first | rfl | k_is)
    (case t_bs_TooMany => first | rfl | k_is)
    (case t_ty_TooMany => first | rfl | k_is)
    (case t_is_TooMany => first | rfl | k_is)
    (case t_hd_TooMany => first | rfl | k_is)
    (case t_sf_TooMany => first | rfl | k_is)
    (case t_ga_Apart => first | rfl | k_is)
    (case t_gg_Apart => first | rfl | k_is)
    (case t_gc_Apart => first | rfl | k_is)
    (case t_mo_Apart => first | rfl | k_is)
    (case t_ga_NoFall => first | rfl | k_is)
    (case t_gg_NoFall => first | rfl | k_is)
    (case t_gc_NoFall => first | rfl | k_is)
    (case t_mo_NoFall => first | rfl | k_is)
    (case t_ga_NoMouth => first | rfl | k_is)
    (case t_gg_NoMouth => first | rfl | k_is)
    (case t_gc_NoMouth => first | rfl | k_is)
    (case t_mo_NoMouth => first | rfl | k_is)
    (case t_ga_NoPast => first | rfl | k_is)
    (case t_gg_NoPast => first | rfl | k_is)
    (case t_gc_NoPast => first | rfl | k_is)
    (case t_mo_NoPast => first | rfl | k_is)
    (case t_ga_NoPlace => first | rfl | k_is)
    (case t_gg_NoPlace => first | rfl | k_is)
    (case t_gc_NoPlace => first | rfl | k_is)
    (case t_mo_NoPlace => first | rfl | k_is)
    (case t_ga_NoRow => first | rfl | k_is)
    (case t_gg_NoRow => first | rfl | k_is)
    (case t_gc_NoRow => first | rfl | k_is)
    (case t_mo_NoRow => first | rfl | k_is)
    (case t_ga_NoSpring => first | rfl | k_is)
    (case t_gg_NoSpring => first | rfl | k_is)
    (case t_gc_NoSpring => first | rfl | k_is)
    (case t_mo_NoSpring => first | rfl | k_is)
    (case t_ga_NoText => first | rfl | k_is)
    (case t_gg_NoText => first | rfl | k_is)
    (case t_gc_NoText => first | rfl | k_is)
    (case t_mo_NoText => first | rfl | k_is)
    (case t_ga_NoTie => first | rfl | k_is)
    (case t_gg_NoTie => first | rfl | k_is)
    (case t_gc_NoTie => first | rfl | k_is)
    (case t_mo_NoTie => first | rfl | k_is)
    (case t_ga_RillError => first | rfl | k_is)
    (case t_gg_RillError => first | rfl | k_is)
    (case t_gc_RillError => first | rfl | k_is)
    (case t_mo_RillError => first | rfl | k_is)
    (case t_ga_SamePlace => first | rfl | k_is)
    (case t_gg_SamePlace => first | rfl | k_is)
    (case t_gc_SamePlace => first | rfl | k_is)
    (case t_mo_SamePlace => first | rfl | k_is)
    (case t_ga_There => first | rfl | k_is)
    (case t_gg_There => first | rfl | k_is)
    (case t_gc_There => first | rfl | k_is)
    (case t_mo_There => first | rfl | k_is)
    (case t_ga_TooMany => first | rfl | k_is)
    (case t_gg_TooMany => first | rfl | k_is)
    (case t_gc_TooMany => first | rfl | k_is)
    (case t_mo_TooMany => first | rfl | k_is)
    (case t_ek_Apart => first | rfl | k_is)
    (case t_et_Apart => first | rfl | k_is)
    (case t_ek_NoFall => first | rfl | k_is)
    (case t_et_NoFall => first | rfl | k_is)
    (case t_ek_NoMouth => first | rfl | k_is)
    (case t_et_NoMouth => first | rfl | k_is)
    (case t_ek_NoPast => first | rfl | k_is)
    (case t_et_NoPast => first | rfl | k_is)
    (case t_ek_NoPlace => first | rfl | k_is)
    (case t_et_NoPlace => first | rfl | k_is)
    (case t_ek_NoRow => first | rfl | k_is)
    (case t_et_NoRow => first | rfl | k_is)
    (case t_ek_NoSpring => first | rfl | k_is)
    (case t_et_NoSpring => first | rfl | k_is)
    (case t_ek_NoText => first | rfl | k_is)
    (case t_et_NoText => first | rfl | k_is)
    (case t_ek_NoTie => first | rfl | k_is)
    (case t_et_NoTie => first | rfl | k_is)
    (case t_ek_RillError => first | rfl | k_is)
    (case t_et_RillError => first | rfl | k_is)
    (case t_ek_SamePlace => first | rfl | k_is)
    (case t_et_SamePlace => first | rfl | k_is)
    (case t_ek_There => first | rfl | k_is)
    (case t_et_There => first | rfl | k_is)
    (case t_ek_TooMany => first | rfl | k_is)
    (case t_et_TooMany => first | rfl | k_is)
    (case t_x_Apart => k_exc)
    (case t_x_NoFall => k_exc)
    (case t_x_NoMouth => k_exc)
    (case t_x_NoPast => k_exc)
    (case t_x_NoPlace => k_exc)
    (case t_x_NoRow => k_exc)
    (case t_x_NoSpring => k_exc)
    (case t_x_NoText => k_exc)
    (case t_x_NoTie => k_exc)
    (case t_x_RillError => k_exc)
    (case t_x_SamePlace => k_exc)
    (case t_x_There => k_exc)
    (case t_x_TooMany => k_exc)
    (case t_su_NoTie_RillError => first | rfl | k_is)
    (case t_su_There_RillError => first | rfl | k_is)
    (case t_su_TooMany_RillError => first | rfl | k_is)
    (case t_tb_Apart => first | rfl | k_is)
    (case t_tb_NoFall => first | rfl | k_is)
    (case t_tb_NoMouth => first | rfl | k_is)
    (case t_tb_NoPast => first | rfl | k_is)
    (case t_tb_NoPlace => first | rfl | k_is)
    (case t_tb_NoRow => first | rfl | k_is)
    (case t_tb_NoSpring => first | rfl | k_is)
    (case t_tb_NoText => first | rfl | k_is)
    (case t_tb_NoTie => first | rfl | k_is)
    (case t_tb_RillError => first | rfl | k_is)
    (case t_tb_SamePlace => first | rfl | k_is)
    (case t_tb_There => first | rfl | k_is)
    (case t_tb_TooMany => first | rfl | k_is)
    (case t_tb_ValueError => first | rfl | k_is)
    (case t_sp0 => first | rfl | k_is)
    (case t_tk0 => first | rfl | k_is)
    (case z_ValueError => k_is)
    (case z_bool => k_is)
    (case z_int => k_is)
    (case z_isinstance => k_is)
    (case z_len => k_is)
    (case z_max => k_is)
    (case z_min => k_is)
    (case z_range => k_is)
    (case z_sorted => k_is)
    (case z_tuple => k_is)
    (case y_MOST_TIES => k_is)

