import PyProof.Rows.All
import HandS.ForMost
import HandS.Wide
import HandS.WideBits
import HandS.TupAny
import HandS.TupMul
import HandS.IsInst
import HandS.Deep
import HandS.Text
import PyProof.P3In
import KE.SortData
import HandS.TupSets
import KE.DataCmp
import HandS.More
import HandS.Style
import HandS.Conv
import HandS.Defaults
import KE.GoesEnum
import HandS.SetFor
import HandS.HeadEnd
import PySem.Challenge.RW_somemore_k06_all_worlds
import KE.KStateDown
import HandS.Head0
import HandS.Head1
import HandS.Head2
import HandS.HeadHook1
import HandS.HeadHook2
/-! Y1: a small language of pure values, what its programs mean. -/
set_option linter.all false
set_option maxRecDepth 100000
namespace Y
open PySem

/-- a value without its address: what may change stands at a place (ref) -/
inductive D where
  | non | bl (b : Bool) | int (i : Int) | str (x : Str) | tup (ds : List D) | ref (l : Nat)
instance : Inhabited D := ⟨.non⟩

/-- what may change -/
inductive Node where
  | lst (ds : List D)
  | fro (ds : List D)
  | dct (kvs : List (D × D))
  | ins (c : Nat) (fs : List (Str × D))
instance : Inhabited Node := ⟨.lst []⟩
def Node.mut : Node → Bool
  | .fro _ => false
  | _ => true

inductive RV where
  | val (d : D) | node (n : Node)
inductive Slot where
  | unset | val (d : D) | own (n : Node)
instance : Inhabited Slot := ⟨.unset⟩
structure St where
  sl : List Slot
  hp : List Node
structure Exn where
  cls : Nat
  fs : List D
inductive Res (α : Type) where
  | ok (a : α) (s : St) | exc (x : Exn) (s : St) | stuck
abbrev M (α : Type) := St → Res α
def M.pure {α : Type} (a : α) : M α := fun s => .ok a s
def M.bind {α β : Type} (m : M α) (f : α → M β) : M β := fun s => match m s with
  | .ok a s' => f a s'
  | .exc x s' => .exc x s'
  | .stuck => .stuck
instance : Monad M := { pure := M.pure, bind := M.bind }
theorem bind_def {α β : Type} (m : M α) (f : α → M β) (s : St) : (m >>= f) s = match m s with
  | .ok a s' => f a s'
  | .exc x s' => .exc x s'
  | .stuck => .stuck := rfl
end Y
namespace Y
open PySem
/-- a step of an evaluation: what is met -/
inductive Opd where
  | val (d : D) | own (i : Nat) | tmp (n : Node)
instance : Inhabited Opd := ⟨.val .non⟩

def stuckM {α : Type} : M α := fun _ => .stuck
/-- so long a list or text may be -/
def lim : Nat := 16777216

/-- the node that an operand is -/
def nodeOf (o : Opd) (s : St) : Option Node := match o with
  | .val (.ref l) => s.hp[l]?
  | .val _ => none
  | .own i => match s.sl[i]? with
    | some (.own n) => some n
    | some (.val (.ref l)) => s.hp[l]?
    | _ => none
  | .tmp n => some n
/-- the items of a list or a tuple -/
def seqOf (o : Opd) (s : St) : Option (List D) := match o with
  | .val (.tup ds) => some ds
  | o => match nodeOf o s with
    | some (.lst ds) => some ds
    | some (.fro ds) => some ds
    | _ => none
/-- the items of a list -/
def lstOf (o : Opd) (s : St) : Option (List D) := match nodeOf o s with
    | some (.lst ds) => some ds
    | some (.fro ds) => some ds
    | _ => none
/-- as a value: a list of one's own becomes a shared one -/
def toD (o : Opd) : M D := fun s => match o with
  | .val d => .ok d s
  | .tmp n => .ok (.ref s.hp.length) { s with hp := s.hp ++ [n] }
  | .own i => match s.sl[i]? with
    | some (.own n) => .ok (.ref s.hp.length) { sl := s.sl.set i (.val (.ref s.hp.length)), hp := s.hp ++ [n] }
    | some (.val d) => .ok d s
    | _ => .stuck
/-- the node is changed -/
def setNode (o : Opd) (n : Node) : M Unit := fun s => match o with
  | .val (.ref l) => .ok () { s with hp := s.hp.set l n }
  | .own i => match s.sl[i]? with
    | some (.own _) => .ok () { s with sl := s.sl.set i (.own n) }
    | some (.val (.ref l)) => .ok () { s with hp := s.hp.set l n }
    | _ => .stuck
  | _ => .stuck

/-! ### data -/
mutual
/-- no places within, so deep at most -/
def D.flat : Nat → D → Bool
  | _, .ref _ => false
  | n, .tup ds => match n with
    | 0 => false
    | n + 1 => D.flats n ds
  | _, .str x => x.cps.all (· < 1114112)
  | _, _ => true
def D.flats : Nat → List D → Bool
  | _, [] => true
  | n, d :: ds => D.flat n d && D.flats n ds
end
mutual
/-- == -/
def D.eq : D → D → Bool
  | .non, .non => true
  | .bl a, .bl b => a == b
  | .bl a, .int j => (if a then 1 else 0) == j
  | .int i, .bl b => i == (if b then 1 else 0)
  | .int i, .int j => i == j
  | .str x, .str y => x == y
  | .tup xs, .tup ys => D.eqs xs ys
  | _, _ => false
def D.eqs : List D → List D → Bool
  | [], [] => true
  | x :: xs, y :: ys => D.eq x y && D.eqs xs ys
  | _, _ => false
end
/-- == of two operands, lists of flat items among them -/
def eqO (x y : Opd) : M Bool := fun s => match x, y with
  | .val (.str a), .val (.str b) => .ok (a == b) s
  | .val a, .val b => if (D.flat 60 a && D.flat 60 b) = true then .ok (D.eq a b) s else .stuck
  | x, y => match lstOf x s, lstOf y s with
    | some a, some b => if (D.flats 60 a && D.flats 60 b) = true then .ok (D.eqs a b) s else .stuck
    | _, _ => .stuck
def D.anyEq (d : D) : List D → Bool
  | [] => false
  | e :: es => D.eq e d || D.anyEq d es
/-- the place of the first equal one -/
def D.idx (d : D) : List D → Option Nat
  | [] => none
  | e :: es => if D.eq e d = true then some 0 else (D.idx d es).map (· + 1)
/-- the same key -/
def D.look (d : D) : List (D × D) → Option D
  | [] => none
  | (k, v) :: es => if D.eq k d = true then some v else D.look d es
def D.put (d v : D) : List (D × D) → List (D × D)
  | [] => [(d, v)]
  | (k, w) :: es => if D.eq k d = true then (k, v) :: es else (k, w) :: D.put d v es
mutual
/-- both are of one kind, place by place -/
def D.like : D → D → Bool
  | .bl _, .bl _ => true
  | .int _, .int _ => true
  | .str _, .str _ => true
  | .tup xs, .tup ys => D.likeL xs ys
  | _, _ => false
def D.likeL : List D → List D → Bool
  | x :: xs, y :: ys => D.like x y && D.likeL xs ys
  | _, _ => true
end
mutual
/-- <, of such -/
def D.lt : D → D → Bool
  | .bl a, .bl b => !a && b
  | .int i, .int j => decide (i < j)
  | .str a, .str b => decide (a.cps.toList < b.cps.toList)
  | .tup xs, .tup ys => D.ltL xs ys
  | _, _ => false
def D.ltL : List D → List D → Bool
  | [], [] => false
  | [], _ :: _ => true
  | _ :: _, [] => false
  | x :: xs, y :: ys => if D.eq x y = true then D.ltL xs ys else D.lt x y
end
def D.ins (x : D) : List D → List D
  | [] => [x]
  | y :: ys => if D.lt y x = true then y :: D.ins x ys else x :: y :: ys
/-- sorted -/
def D.srt : List D → List D
  | [] => []
  | x :: xs => D.ins x (D.srt xs)
def D.likes (ds : List D) : Bool := ds.all fun x => ds.all fun y => D.like x y
/-- each once, the last ones -/
def D.once : List D → List D
  | [] => []
  | x :: xs => if D.anyEq x xs = true then D.once xs else x :: D.once xs
/-- the place that an index means -/
def ixN (n : Nat) (i : Int) : Option Nat := if 0 ≤ i then (if i < n then some i.toNat else none) else if -(n : Int) ≤ i then some (i + n).toNat else none
/-- a bound of a slice -/
def sIx (n d : Nat) : Option Int → Nat
  | none => d
  | some i => if i < 0 then (i + n).toNat else min i.toNat n
def cut {α : Type} (xs : List α) (lo hi : Option Int) : List α := (xs.drop (sIx xs.length 0 lo)).take (sIx xs.length xs.length hi - sIx xs.length 0 lo)

inductive Op2 where
  | add | sub | mul | fdiv | mod | pow | shl | shr | band
  deriving DecidableEq
inductive Cm where
  | eq | ne | lt | le | gt | ge | isN | notN | isIn | notIn
  deriving DecidableEq
inductive BI where
  | len | abs | int | str | sum | all | any | max | min | tuple | list | sorted
  deriving DecidableEq
inductive Me where
  | append | pop | extend | insert | index | count | reverse | join | split | startswith | replace | get
  deriving DecidableEq
inductive Ty where
  | int | bool | str | tuple | list | non
  deriving DecidableEq

def val (d : D) : M Opd := fun s => .ok (.val d) s
def tmp (n : Node) : M Opd := fun s => .ok (.tmp n) s
def intB (b : Bool) : Int := if b then 1 else 0

def op2 (o : Op2) (x y : Opd) : M Opd := fun s => match o, x, y with
  | .add, .val (.int i), .val (.int j) => .ok (.val (.int (i + j))) s
  | .add, .val (.str a), .val (.str b) => if a.length + b.length ≤ lim then .ok (.val (.str (a ++ b))) s else .stuck
  | .add, .val (.tup a), .val (.tup b) => if a.length + b.length ≤ lim then .ok (.val (.tup (a ++ b))) s else .stuck
  | .add, x, y => match nodeOf x s, nodeOf y s with
    | some (.lst a), some (.lst b) => if a.length + b.length ≤ lim then .ok (.tmp (.lst (a ++ b))) s else .stuck
    | _, _ => .stuck
  | .sub, .val (.int i), .val (.int j) => .ok (.val (.int (i - j))) s
  | .mul, .val (.int i), .val (.int j) => if i.natAbs.log2 + j.natAbs.log2 < 1000000 then .ok (.val (.int (i * j))) s else .stuck
  | .mul, .val (.tup a), .val (.int k) => if a ≠ [] ∧ 0 ≤ k ∧ k ≤ 1000 ∧ a.length ≤ 1000 then .ok (.val (.tup (List.replicate k.toNat a).flatten)) s else .stuck
  | .mul, x, .val (.int k) => match nodeOf x s with
    | some (.lst a) => if -(2 ^ 63) ≤ k ∧ k < 2 ^ 63 ∧ a.length * k.toNat ≤ lim then .ok (.tmp (.lst (List.replicate k.toNat a).flatten)) s else .stuck
    | _ => .stuck
  | .fdiv, .val (.int i), .val (.int j) => if 0 < j ∧ j.natAbs.log2 < 9000 then .ok (.val (.int (i / j))) s else .stuck
  | .mod, .val (.int i), .val (.int j) => if 0 < j then .ok (.val (.int (i % j))) s else .stuck
  | .pow, .val (.int i), .val (.int j) => if 0 ≤ j ∧ j ≤ 1000000 ∧ i.natAbs < 2 ^ 64 then .ok (.val (.int (i ^ j.toNat))) s else .stuck
  | .shl, .val (.int i), .val (.int j) => if 0 ≤ j ∧ j ≤ 10000 ∧ i = 1 then .ok (.val (.int (2 ^ j.toNat))) s else .stuck
  | .shr, .val (.int i), .val (.int j) => if 0 ≤ j then .ok (.val (.int (i / 2 ^ j.toNat))) s else .stuck
  | _, _, _ => .stuck

def bl (m : M Bool) : M Opd := fun s => match m s with
  | .ok b s' => .ok (.val (.bl b)) s'
  | .exc x s' => .exc x s'
  | .stuck => .stuck
def isNon (o : Opd) (s : St) : Option Bool := match o with
  | .val .non => some true
  | .val _ => some false
  | o => (nodeOf o s).map fun _ => false
/-- order of ints and of texts -/
def ltD (x y : D) : Option Bool := match x, y with
  | .int i, .int j => some (decide (i < j))
  | .str a, .str b => some (decide (a.cps.toList < b.cps.toList))
  | .tup xs, .tup ys => if (D.flat 60 (.tup xs) && D.flat 60 (.tup ys) && D.likeL xs ys) = true then some (D.ltL xs ys) else none
  | _, _ => none
def inO (x y : Opd) : M Bool := fun s => match x, y with
  | .val (.str a), .val (.str b) => match a.cps.toList with
    | [c] => .ok (decide (c ∈ b.cps.toList)) s
    | _ => .stuck
  | .val d, y => match seqOf y s with
    | some ds => if (D.flat 60 d && D.flats 60 ds) = true then .ok (D.anyEq d ds) s else .stuck
    | none => .stuck
  | _, _ => .stuck
def cmp (o : Cm) (x y : Opd) : M Bool := match o with
  | .eq => eqO x y
  | .ne => fun s => match eqO x y s with
    | .ok b s' => .ok (!b) s'
    | .exc e s' => .exc e s'
    | .stuck => .stuck
  | .isN => fun s => match y, isNon x s with
    | .val .non, some b => .ok b s
    | _, _ => .stuck
  | .notN => fun s => match y, isNon x s with
    | .val .non, some b => .ok (!b) s
    | _, _ => .stuck
  | .isIn => inO x y
  | .notIn => fun s => match inO x y s with
    | .ok b s' => .ok (!b) s'
    | .exc e s' => .exc e s'
    | .stuck => .stuck
  | .lt => fun s => match x, y with
    | .val a, .val b => match ltD a b with
      | some r => .ok r s
      | none => .stuck
    | _, _ => .stuck
  | .gt => fun s => match x, y with
    | .val a, .val b => match ltD b a with
      | some r => .ok r s
      | none => .stuck
    | _, _ => .stuck
  | .le => fun s => match x, y with
    | .val a, .val b => match ltD b a with
      | some r => .ok (!r) s
      | none => .stuck
    | _, _ => .stuck
  | .ge => fun s => match x, y with
    | .val a, .val b => match ltD a b with
      | some r => .ok (!r) s
      | none => .stuck
    | _, _ => .stuck

def truth (o : Opd) : M Bool := fun s => match o with
  | .val .non => .ok false s
  | .val (.bl b) => .ok b s
  | .val (.int i) => .ok (i != 0) s
  | .val (.str x) => if x.length ≤ lim then .ok ((x.length : Int) != 0) s else .stuck
  | .val (.tup ds) => .ok (!ds.isEmpty) s
  | o => match nodeOf o s with
    | some (.lst ds) => .ok (!ds.isEmpty) s
    | some (.fro ds) => .ok (!ds.isEmpty) s
    | _ => .stuck

def subO (x y : Opd) : M Opd := fun s => match x, y with
  | .val (.str a), .val (.int i) => if a.length ≤ lim then (match (ixN a.cps.toList.length i).bind fun j => a.cps.toList[j]? with
    | some c => .ok (.val (.str ⟨#[c]⟩)) s
    | none => .stuck) else .stuck
  | x, .val k => match seqOf x s with
    | some ds => match k with
      | .int i => match (ixN ds.length i).bind fun j => ds[j]? with
        | some d => .ok (.val d) s
        | none => .stuck
      | _ => .stuck
    | none => .stuck
  | _, _ => .stuck
def cutO (x : Opd) (lo hi : Option Int) : M Opd := fun s => match x with
  | .val (.tup ds) => .ok (.val (.tup (cut ds lo hi))) s
  | .val (.str a) => if a.length ≤ lim then .ok (.val (.str ⟨(cut a.cps.toList lo hi).toArray⟩)) s else .stuck
  | x => match lstOf x s with
    | some ds => .ok (.tmp (.lst (cut ds lo hi))) s
    | none => .stuck
def revO (x : Opd) : M Opd := fun s => match x with
  | .val (.tup ds) => .ok (.val (.tup ds.reverse)) s
  | x => match lstOf x s with
    | some ds => .ok (.tmp (.lst ds.reverse)) s
    | none => .stuck
def intOf (o : Opd) : M (Option Int) := fun s => match o with
  | .val (.int i) => .ok (some i) s
  | _ => .stuck

def D.ints : List D → Option (List Int)
  | [] => some []
  | .int i :: ds => (D.ints ds).map (i :: ·)
  | _ :: _ => none
def D.bools : List D → Option (List Bool)
  | [] => some []
  | .bl i :: ds => (D.bools ds).map (i :: ·)
  | _ :: _ => none
def D.strs : List D → Option (List Str)
  | [] => some []
  | .str i :: ds => (D.strs ds).map (i :: ·)
  | _ :: _ => none

def bi (b : BI) (os : List Opd) : M Opd := fun s => match b, os with
  | .len, [.val (.str x)] => if x.length ≤ lim then .ok (.val (.int x.length)) s else .stuck
  | .len, [o] => match seqOf o s with
    | some ds => .ok (.val (.int ds.length)) s
    | none => .stuck
  | .abs, [.val (.int i)] => .ok (.val (.int (if i < 0 then -i else i))) s
  | .int, [.val (.int i)] => .ok (.val (.int i)) s
  | .int, [.val (.bl k)] => .ok (.val (.int (if k then 1 else 0))) s
  | .all, [o] => match (lstOf o s).bind D.bools with
    | some bs => .ok (.val (.bl (bs.all id))) s
    | none => .stuck
  | .any, [o] => match (lstOf o s).bind D.bools with
    | some bs => .ok (.val (.bl (bs.any id))) s
    | none => .stuck
  | .sum, [o] => match (lstOf o s).bind D.ints with
    | some is => .ok (.val (.int is.sum)) s
    | none => .stuck
  | .tuple, [.val (.tup ds)] => .ok (.val (.tup ds)) s
  | .tuple, [o] => match lstOf o s with
    | some ds => .ok (.val (.tup ds)) s
    | none => .stuck
  | .list, [o] => match seqOf o s with
    | some ds => .ok (.tmp (.lst ds)) s
    | none => .stuck
  | .sorted, [o] => match seqOf o s with
    | some ds => if (D.flats 60 ds && D.likes ds) = true ∧ ds.length ≤ lim then .ok (.tmp (.lst (D.srt ds))) s else .stuck
    | none => .stuck
  | .max, [.val (.int i), .val (.int j)] => .ok (.val (.int (if j > i then j else i))) s
  | .min, [.val (.int i), .val (.int j)] => .ok (.val (.int (if j < i then j else i))) s
  | _, _ => .stuck

/-- sorted(set(o)) -/
def ssetO (o : Opd) : M Opd := fun s => match o with
  | .val (.tup ds) => match D.ints ds with
    | some is => if is.length < 64 then .ok (.tmp (.lst (D.srt (D.once ds)))) s else .stuck
    | none => .stuck
  | _ => .stuck
/-- a method of a built-in type -/
def meth (m : Me) (o : Opd) (ds : List D) : M Opd := fun s => match m, ds with
  | .append, [d] => match nodeOf o s with
    | some (.lst xs) => if xs.length < lim then (match setNode o (.lst (xs ++ [d])) s with
      | .ok _ s' => .ok (.val .non) s'
      | .exc e s' => .exc e s'
      | .stuck => .stuck) else .stuck
    | _ => .stuck
  | .pop, [] => match nodeOf o s with
    | some (.lst xs) => match xs[xs.length - 1]? with
      | some d => (match setNode o (.lst xs.dropLast) s with
        | .ok _ s' => .ok (.val d) s'
        | .exc e s' => .exc e s'
        | .stuck => .stuck)
      | none => .stuck
    | _ => .stuck
  | .pop, [.int i] => match nodeOf o s with
    | some (.lst xs) => match ixN xs.length i with
      | some k => match xs[k]? with
        | some d => (match setNode o (.lst (xs.eraseIdx k)) s with
          | .ok _ s' => .ok (.val d) s'
          | .exc e s' => .exc e s'
          | .stuck => .stuck)
        | none => .stuck
      | none => .stuck
    | _ => .stuck
  | .extend, [.ref l] => match nodeOf o s with
    | some (.lst xs) => match s.hp[l]? with
      | some (.lst zs) => if xs.length + zs.length ≤ lim then (match setNode o (.lst (xs ++ zs)) s with
        | .ok _ s' => .ok (.val .non) s'
        | .exc e s' => .exc e s'
        | .stuck => .stuck) else .stuck
      | _ => .stuck
    | _ => .stuck
  | .insert, [.int i, d] => match nodeOf o s with
    | some (.lst xs) => if xs.length < lim ∧ 0 ≤ i ∧ i < 2 ^ 63 then (match setNode o (.lst (xs.take i.toNat ++ [d] ++ xs.drop i.toNat)) s with
      | .ok _ s' => .ok (.val .non) s'
      | .exc e s' => .exc e s'
      | .stuck => .stuck) else .stuck
    | _ => .stuck
  | _, _ => .stuck
def Me.isL : Me → Bool
  | .append | .pop | .extend | .insert | .reverse => true
  | _ => false
/-- what the receiver of a method has to be -/
def metOk (m : Me) (o : Opd) : M Unit := fun s => if m.isL = true then (if (lstOf o s).isSome = true then .ok () s else .stuck) else .stuck
/-- o[i] = v -/
def putO (o : Opd) (i v : D) : M Unit := fun s => match nodeOf o s with
  | some (.lst xs) => match i with
    | .int k => match ixN xs.length k with
      | some j => setNode o (.lst (xs.set j v)) s
      | none => .stuck
    | _ => .stuck
  | _ => .stuck

def tyOf (o : Opd) (s : St) : Option Ty := match o with
  | .val .non => some .non
  | .val (.bl _) => some .bool
  | .val (.int _) => some .int
  | .val (.str _) => some .str
  | .val (.tup _) => some .tuple
  | o => match nodeOf o s with
    | some (.lst _) => some .list
    | some (.fro _) => some .list
    | _ => none
def Ty.below : Ty → Ty → Bool
  | .bool, .int => true
  | a, b => decide (a = b)
def isi (ts : List Ty) (o : Opd) : M Opd := fun s => match tyOf o s with
  | some t => .ok (.val (.bl (ts.any t.below))) s
  | none => .stuck

/-! ### functions -/
inductive FRes where
  | ret (r : RV) (h : List Node) | exc (x : Exn) (h : List Node) | stuck
abbrev FnD := List D → List Node → FRes
structure Tb where
  fn : Nat → FnD
  cn : Nat → Opd
def RV.opd : RV → Opd
  | .val d => .val d
  | .node n => .tmp n
def callF (f : FnD) (ds : List D) : M Opd := fun s => match f ds s.hp with
  | .ret r h => .ok r.opd { s with hp := h }
  | .exc x h => .exc x { s with hp := h }
  | .stuck => .stuck

/-! ### expressions -/
inductive Tg where
  | name (i : Nat) | tup (ts : List Tg)
mutual
inductive IE where
  | var (i : Nat) | int (i : Int) | bl (b : Bool) | str (x : Str) | non | glob (id : Nat)
  | tup (es : IEs) | lst (es : IEs)
  | bin (o : Op2) (a b : IE) | neg (a : IE)
  | cmp (o : Cm) (a b : IE) | cmp2 (o o' : Cm) (a b c : IE)
  | and (a b : IE) | or (a b : IE) | not (a : IE) | ife (c a b : IE)
  | sub (a i : IE) | cut (a : IE) (lo hi : IEs) | rev (a : IE)
  | call (id : Nat) (es : IEs) | callk (id : Nat) (es ks : IEs) (perm : List Nat) | bi (b : BI) (es : IEs) | meth (m : Me) (o : IE) (es : IEs)
  | isi (ts : List Ty) (a : IE)
  | rng (es : IEs) | enum (a : IE) | zip (a b : IE) | sset (a : IE)
  | lc (own : List Nat) (elt : IE) (t : Tg) (src : IE) (ifs : IEs)
  | lc2 (own vs1 : List Nat) (elt : IE) (t : Tg) (src : IE) (ifs : IEs) (t1 : Tg) (src1 : IE) (ifs1 : IEs)
inductive IEs where
  | nil | cons (e : IE) (es : IEs)
end
/-- what is walked -/
structure Walk where
  ds : List D
  live : Option (Opd × List D)
/-- the three readings of an expression: as an operand, as a test, as a walk -/
structure Mean where
  E : M Opd
  T : M Bool
  I : M Walk

def walkO (o : Opd) : M Walk := fun s => match o with
  | .val (.tup ds) => .ok ⟨ds, none⟩ s
  | .val (.str x) => .ok ⟨x.cps.toList.map fun c => .str ⟨#[c]⟩, none⟩ s
  | o => match lstOf o s with
    | some ds => .ok ⟨ds, some (o, ds)⟩ s
    | none => .stuck
/-- enumerate's items -/
def enF : Nat → List D → List D
  | _, [] => []
  | i, d :: ds => .tup [.int (i : Int), d] :: enF (i + 1) ds
def enumO (o : Opd) : M Walk := fun s => match o with
  | .val (.tup ds) => .ok ⟨enF 0 ds, none⟩ s
  | o => match lstOf o s with
    | some ds => .ok ⟨enF 0 ds, some (o, ds)⟩ s
    | none => .stuck
def mean (m : M Opd) : Mean := ⟨m, m >>= truth, m >>= walkO⟩
def mVar (i : Nat) : M Opd := fun s => match s.sl[i]? with
  | some (.val d) => .ok (.val d) s
  | some (.own _) => .ok (.own i) s
  | _ => .stuck
def mDs : List Mean → M (List D)
  | [] => pure []
  | m :: ms => do
    let o ← m.E
    let d ← toD o
    let ds ← mDs ms
    pure (d :: ds)
def mOs : List Mean → M (List Opd)
  | [] => pure []
  | m :: ms => do
    let o ← m.E
    let os ← mOs ms
    pure (o :: os)
def mPart : List Mean → M (Option Int)
  | [] => pure none
  | [m] => m.E >>= intOf
  | _ => stuckM
def asB (o : Opd) : M Bool := fun s => match o with
  | .val (.bl b) => .ok b s
  | _ => .stuck
def mIfs : List Mean → M Bool
  | [] => pure true
  | m :: ms => do
    let b ← m.T
    if b = true then mIfs ms else pure false
/-- - -/
def negO (x : Opd) : M Opd := fun s => match x with
  | .val (.int i) => .ok (.val (.int (-i))) s
  | _ => .stuck
/-- a range's ints -/
def upD (lo hi : Int) : List D := (List.range (hi - lo).toNat).map fun (k : Nat) => .int (lo + (k : Int))
def downD (lo hi : Int) : List D := (List.range (lo - hi).toNat).map fun (k : Nat) => .int (lo + (k : Int) * -1)
def small (i : Int) : Prop := -(2 ^ 62) ≤ i ∧ i < 2 ^ 62
instance (i : Int) : Decidable (small i) := inferInstanceAs (Decidable (_ ∧ _))
def mRng (os : List Opd) : M Walk := fun s => match os with
  | [.val (.int j)] => if small j then .ok ⟨upD 0 j, none⟩ s else .stuck
  | [.val (.int i), .val (.int j)] => if small i ∧ small j then .ok ⟨upD i j, none⟩ s else .stuck
  | [.val (.int i), .val (.int j), .val (.int k)] => if small i ∧ small j ∧ k = -1 then .ok ⟨downD i j, none⟩ s else .stuck
  | _ => .stuck
-- the targets take a value
mutual
def Tg.put : Tg → D → M Unit
  | .name i, d => fun s => if i < s.sl.length then .ok () { s with sl := s.sl.set i (.val d) } else .stuck
  | .tup ts, d => fun s => match d with
    | .tup ds => Tg.puts ts ds s
    | _ => .stuck
def Tg.puts : List Tg → List D → M Unit
  | [], [] => pure ()
  | t :: ts, d :: ds => do
    Tg.put t d
    Tg.puts ts ds
  | _, _ => stuckM
end
/-- what is walked is as it was -/
noncomputable def Walk.same (w : Walk) (s : St) : Bool := match w.live with
  | none => true
  | some (o, xs) => @decide (lstOf o s = some xs) (Classical.propDecidable _)
def wipe : List Nat → List Slot → List Slot
  | [], sl => sl
  | v :: vs, sl => (wipe vs sl).set v .unset
/-- the block's own names as they were ahead -/
def unwipe : List Nat → List Slot → List Slot → List Slot
  | [], _, new => new
  | v :: vs, old, new => (unwipe vs old new).set v (old.getD v .unset)
/-- a comprehension's turns: acc is the list so far -/
noncomputable def lcGo (w : Walk) (own : List Nat) (elt : M Opd) (t : Tg) (ifs : M Bool) : List D → List D → M (List D)
  | [], acc => fun s => if w.same s = true then .ok acc s else .stuck
  | d :: ds, acc => fun s => if w.same s = true then (match (Tg.put t d >>= fun _ => ifs) s with
    | .ok true s1 => (match (elt >>= toD) s1 with
      | .ok e s2 => if acc.length < lim then lcGo w own elt t ifs ds (acc ++ [e]) { s2 with sl := wipe own s2.sl } else .stuck
      | _ => .stuck)
    | .ok false s1 => lcGo w own elt t ifs ds acc { s1 with sl := wipe own s1.sl }
    | _ => .stuck) else .stuck
noncomputable def mLc (own : List Nat) (elt : M Opd) (t : Tg) (src : M Walk) (ifs : M Bool) : M Opd := fun s => match src s with
  | .ok w s1 => (match lcGo w own elt t ifs w.ds [] { s1 with sl := wipe own s1.sl } with
    | .ok ds s2 => .ok (.tmp (.lst ds)) { s2 with sl := unwipe own s1.sl s2.sl }
    | _ => .stuck)
  | .exc x s1 => .exc x s1
  | .stuck => .stuck

/-- .. of two clauses: the second source's loop behind the first clause's store and tests -/
noncomputable def lcGo2 (w : Walk) (own vs1 : List Nat) (elt : M Opd) (t : Tg) (ifs : M Bool) (t1 : Tg) (src1 : M Walk) (ifs1 : M Bool) : List D → List D → M (List D)
  | [], acc => fun s => if w.same s = true then .ok acc s else .stuck
  | d :: ds, acc => fun s => if w.same s = true then (match (Tg.put t d >>= fun _ => ifs) s with
    | .ok true s1 => (match src1 s1 with
      | .ok w1 s2 => (match w1.live with
        | some (.tmp _, _) => .stuck
        | _ => (match lcGo w1 vs1 elt t1 ifs1 w1.ds acc { s2 with sl := wipe vs1 s2.sl } with
          | .ok acc' s3 => lcGo2 w own vs1 elt t ifs t1 src1 ifs1 ds acc' { s3 with sl := wipe own s3.sl }
          | _ => .stuck))
      | _ => .stuck)
    | .ok false s1 => lcGo2 w own vs1 elt t ifs t1 src1 ifs1 ds acc { s1 with sl := wipe own s1.sl }
    | _ => .stuck) else .stuck
noncomputable def mLc2 (own vs1 : List Nat) (elt : M Opd) (t : Tg) (src : M Walk) (ifs : M Bool) (t1 : Tg) (src1 : M Walk) (ifs1 : M Bool) : M Opd := fun s => match src s with
  | .ok w s1 => (match lcGo2 w own vs1 elt t ifs t1 src1 ifs1 w.ds [] { s1 with sl := wipe own s1.sl } with
    | .ok ds s2 => .ok (.tmp (.lst ds)) { s2 with sl := unwipe own s1.sl s2.sl }
    | _ => .stuck)
  | .exc x s1 => .exc x s1
  | .stuck => .stuck

mutual
noncomputable def sem (T : Tb) : IE → Mean
  | .var i => mean (mVar i)
  | .int i => mean (val (.int i))
  | .bl b => mean (val (.bl b))
  | .str x => mean (val (.str x))
  | .non => mean (val .non)
  | .glob id => mean (pure (T.cn id))
  | .tup es => mean (do let ds ← mDs (sems T es); val (.tup ds))
  | .lst es => mean (do let ds ← mDs (sems T es); tmp (.lst ds))
  | .bin o a b => mean (do let x ← (sem T a).E; let y ← (sem T b).E; op2 o x y)
  | .neg a => mean (do let x ← (sem T a).E; negO x)
  | .cmp o a b => mean (do let x ← (sem T a).E; let y ← (sem T b).E; Y.bl (Y.cmp o x y))
  | .cmp2 o o' a b c => mean (do
      let x ← (sem T a).E
      let y ← (sem T b).E
      let k ← Y.cmp o x y
      if k = true then (do let z ← (sem T c).E; Y.bl (Y.cmp o' y z)) else val (.bl false))
  | .and a b => ⟨(do let x ← (sem T a).E; let k ← asB x; if k = true then (sem T b).E else val (.bl false)),
      (do let k ← (sem T a).T; if k = true then (sem T b).T else pure false), stuckM⟩
  | .or a b => ⟨(do let x ← (sem T a).E; let k ← asB x; if k = true then val (.bl true) else (sem T b).E),
      (do let k ← (sem T a).T; if k = true then pure true else (sem T b).T), stuckM⟩
  | .not a => ⟨(do let x ← (sem T a).E; let k ← truth x; val (.bl (!k))), (do let k ← (sem T a).T; pure (!k)), stuckM⟩
  | .ife c a b => ⟨(do let k ← (sem T c).T; if k = true then (sem T a).E else (sem T b).E), (do let k ← (sem T c).T; if k = true then (sem T a).T else (sem T b).T),
      ((do let k ← (sem T c).T; if k = true then (sem T a).E else (sem T b).E) >>= walkO)⟩
  | .sub a i => mean (do let x ← (sem T a).E; let y ← (sem T i).E; subO x y)
  | .cut a lo hi => mean (do
      let x ← (sem T a).E
      let l ← mPart (sems T lo)
      let h ← mPart (sems T hi)
      cutO x l h)
  | .rev a => mean (do let x ← (sem T a).E; revO x)
  | .call id es => mean (do let ds ← mDs (sems T es); callF (T.fn id) ds)
  | .callk id es ks perm => mean (do let ds ← mDs (sems T es ++ sems T ks); callF (T.fn id) (perm.map fun j => ds.getD j .non))
  | .bi b es => mean (do let os ← mOs (sems T es); Y.bi b os)
  | .meth m o es => mean (do let x ← (sem T o).E; metOk m x; let ds ← mDs (sems T es); Y.meth m x ds)
  | .isi ts a => mean (do let x ← (sem T a).E; Y.isi ts x)
  | .rng es => ⟨stuckM, stuckM, (do let os ← mOs (sems T es); mRng os)⟩
  | .enum a => ⟨stuckM, stuckM, (do let x ← (sem T a).E; enumO x)⟩
  | .zip a b => ⟨stuckM, stuckM, stuckM⟩
  | .sset a => mean (do let x ← (sem T a).E; ssetO x)
  | .lc own elt t src ifs => mean (mLc own (sem T elt).E t (sem T src).I (mIfs (sems T ifs)))
  | .lc2 own vs1 elt t src ifs t1 src1 ifs1 => mean (mLc2 own vs1 (sem T elt).E t (sem T src).I (mIfs (sems T ifs)) t1 (sem T src1).I (mIfs (sems T ifs1)))
noncomputable def sems (T : Tb) : IEs → List Mean
  | .nil => []
  | .cons e es => sem T e :: sems T es
end
end Y

namespace Y
open PySem
/-! ### statements -/
inductive Fl where
  | next | ret (r : RV) | brk | cont
mutual
inductive IS where
  | expr (e : IE) | ret (e : IE) | retN
  | set (i : Nat) (e : IE) | asg (t : Tg) (e : IE) | par (i j : Nat) (a b : IE)
  | put (o i v : IE) | aug (i : Nat) (e : IE)
  | ife (c : IE) (a b : ISs) | whl (c : IE) (b : ISs) | fo (t : Tg) (src : IE) (b : ISs)
  | brk | cont | pass
inductive ISs where
  | nil | cons (s : IS) (ss : ISs)
end
/-- a slot takes what was met -/
def stO (i : Nat) (o : Opd) : M Unit := fun s => if i < s.sl.length then (match o with
  | .val d => .ok () { s with sl := s.sl.set i (.val d) }
  | .tmp n => .ok () { s with sl := s.sl.set i (.own n) }
  | .own j => match s.sl[j]? with
    | some (.val d) => .ok () { s with sl := s.sl.set i (.val d) }
    | some (.own n) => if i = j then .ok () s else .ok () { sl := (s.sl.set j (.val (.ref s.hp.length))).set i (.val (.ref s.hp.length)), hp := s.hp ++ [n] }
    | _ => .stuck) else .stuck
/-- what is handed back -/
def rvO (o : Opd) : M RV := fun s => match o with
  | .val d => .ok (.val d) s
  | .tmp n => .ok (.node n) s
  | .own i => match s.sl[i]? with
    | some (.own n) => .ok (.node n) s
    | some (.val d) => .ok (.val d) s
    | _ => .stuck
/-- a list of one's own that a loop walks is a shared one from there on -/
def settle (w : Walk) : M Walk := fun s => match w.live with
  | some (.own i, xs) => match toD (.own i) s with
    | .ok d s' => .ok ⟨w.ds, some (.val d, xs)⟩ s'
    | .exc x s' => .exc x s'
    | .stuck => .stuck
  | _ => .ok w s
noncomputable def forGo (w : Walk) (t : Tg) (body : M Fl) : List D → M Fl
  | [] => fun s => if w.same s = true then .ok .next s else .stuck
  | d :: ds => fun s => if w.same s = true then (match (Tg.put t d >>= fun _ => body) s with
    | .ok .next s1 => forGo w t body ds s1
    | .ok .cont s1 => forGo w t body ds s1
    | .ok .brk s1 => .ok .next s1
    | .ok (.ret r) s1 => .ok (.ret r) s1
    | .exc x s1 => .exc x s1
    | .stuck => .stuck) else .stuck
/-- n turns at most -/
def whlGo (c : M Bool) (body : M Fl) : Nat → St → Option (Res Fl)
  | 0, _ => none
  | n + 1, s => match c s with
    | .ok false s1 => some (.ok .next s1)
    | .ok true s1 => match body s1 with
      | .ok .next s2 => whlGo c body n s2
      | .ok .cont s2 => whlGo c body n s2
      | .ok .brk s2 => some (.ok .next s2)
      | .ok (.ret r) s2 => some (.ok (.ret r) s2)
      | .exc x s2 => some (.exc x s2)
      | .stuck => some .stuck
    | .exc x s1 => some (.exc x s1)
    | .stuck => some .stuck
open Classical in
noncomputable def mWhl (c : M Bool) (body : M Fl) : M Fl := fun s =>
  if h : ∃ n r, whlGo c body n s = some r then Classical.choose (Classical.choose_spec h) else .stuck
theorem whlGo_mono {c : M Bool} {body : M Fl} : ∀ {n : Nat} {s : St} {r : Res Fl}, whlGo c body n s = some r → whlGo c body (n + 1) s = some r
  | 0, _, _, h => by simp [whlGo] at h
  | n + 1, s, r, h => by
    rw [whlGo] at h ⊢
    cases hc : c s with
    | ok k s1 =>
      cases k with
      | false => simpa only [hc] using h
      | true =>
        simp only [hc] at h ⊢
        cases hb : body s1 with
        | ok f s2 =>
          cases f with
          | next => simp only [hb] at h ⊢; exact whlGo_mono h
          | cont => simp only [hb] at h ⊢; exact whlGo_mono h
          | brk => simpa only [hb] using h
          | ret r => simpa only [hb] using h
        | exc x s2 => simpa only [hb] using h
        | stuck => simpa only [hb] using h
    | exc x s1 => simpa only [hc] using h
    | stuck => simpa only [hc] using h
theorem whlGo_le {c : M Bool} {body : M Fl} {n m : Nat} {s : St} {r : Res Fl} (h : whlGo c body n s = some r) (l : n ≤ m) : whlGo c body m s = some r := by
  induction l with
  | refl => exact h
  | step _ ih => exact whlGo_mono ih
theorem whlGo_det {c : M Bool} {body : M Fl} {n m : Nat} {s : St} {r q : Res Fl} (h : whlGo c body n s = some r) (h' : whlGo c body m s = some q) : r = q := by
  have a := whlGo_le h (Nat.le_max_left n m)
  have b := whlGo_le h' (Nat.le_max_right n m)
  rw [a] at b
  exact Option.some.inj b
theorem mWhl_of {c : M Bool} {body : M Fl} {n : Nat} {s : St} {r : Res Fl} (h : whlGo c body n s = some r) : mWhl c body s = r := by
  unfold mWhl
  rw [dif_pos ⟨n, r, h⟩]
  have h' : ∃ n r, whlGo c body n s = some r := ⟨n, r, h⟩
  exact whlGo_det (Classical.choose_spec (Classical.choose_spec h')) h
theorem mWhl_some {c : M Bool} {body : M Fl} {s : St} (h : mWhl c body s ≠ .stuck) : ∃ n, whlGo c body n s = some (mWhl c body s) := by
  unfold mWhl at h ⊢
  by_cases h' : ∃ n r, whlGo c body n s = some r
  · rw [dif_pos h']
    exact ⟨_, Classical.choose_spec (Classical.choose_spec h')⟩
  · rw [dif_neg h'] at h
    exact absurd rfl h
/-- one turn -/
theorem mWhl_eq (c : M Bool) (body : M Fl) (s : St) : mWhl c body s = match c s with
    | .ok false s1 => .ok .next s1
    | .ok true s1 => match body s1 with
      | .ok .next s2 => mWhl c body s2
      | .ok .cont s2 => mWhl c body s2
      | .ok .brk s2 => .ok .next s2
      | .ok (.ret r) s2 => .ok (.ret r) s2
      | .exc x s2 => .exc x s2
      | .stuck => .stuck
    | .exc x s1 => .exc x s1
    | .stuck => .stuck := by
  have one : ∀ r, whlGo c body 1 s = some r → mWhl c body s = r := fun r => mWhl_of
  have next : ∀ s1 s2, c s = .ok true s1 → (body s1 = .ok .next s2 ∨ body s1 = .ok .cont s2) → mWhl c body s = mWhl c body s2 := fun s1 s2 e1 e2 => by
    by_cases h : ∃ n r, whlGo c body n s2 = some r
    · obtain ⟨n, r, h⟩ := h
      rw [mWhl_of h]
      refine mWhl_of (n := n + 1) ?_
      unfold whlGo
      rw [e1]
      rcases e2 with e2 | e2 <;> (simp only [e2]; exact h)
    · have h2 : ¬ ∃ n r, whlGo c body n s = some r := by
        rintro ⟨n, r, q⟩
        cases n with
        | zero => simp [whlGo] at q
        | succ n =>
          unfold whlGo at q
          rw [e1] at q
          rcases e2 with e2 | e2 <;> (simp only [e2] at q; exact h ⟨n, r, q⟩)
      unfold mWhl
      rw [dif_neg h, dif_neg h2]
  split
  · rename_i e; exact one _ (by unfold whlGo; rw [e])
  · rename_i s1 e
    split
    · rename_i e2; exact next _ _ e (.inl e2)
    · rename_i e2; exact next _ _ e (.inr e2)
    · rename_i e2; exact one _ (by unfold whlGo; simp only [e, e2])
    · rename_i e2; exact one _ (by unfold whlGo; simp only [e, e2])
    · rename_i e2; exact one _ (by unfold whlGo; simp only [e, e2])
    · rename_i e2; exact one _ (by unfold whlGo; simp only [e, e2])
  · rename_i e; exact one _ (by unfold whlGo; rw [e])
  · rename_i e; exact one _ (by unfold whlGo; rw [e])

def drop (m : M Opd) : M Fl := fun s => match m s with
  | .ok _ s' => .ok .next s'
  | .exc x s' => .exc x s'
  | .stuck => .stuck
def thenN (m : M Unit) : M Fl := fun s => match m s with
  | .ok _ s' => .ok .next s'
  | .exc x s' => .exc x s'
  | .stuck => .stuck
def mRet (m : M Opd) : M Fl := do
  let o ← m
  let r ← rvO o
  pure (.ret r)
def mSeq (a b : M Fl) : M Fl := fun s => match a s with
  | .ok .next s' => b s'
  | .ok f s' => .ok f s'
  | .exc x s' => .exc x s'
  | .stuck => .stuck
def Opd.settled : Opd → Bool
  | .own _ => false
  | _ => true
/-- a, b = x, y -/
def mPar (i j : Nat) (a b : M Opd) : M Fl := thenN (do
  let x ← a
  let x ← (if x.settled = true then pure x else toD x >>= fun d => pure (Opd.val d))
  let y ← b
  let y ← (if y.settled = true then pure y else toD y >>= fun d => pure (Opd.val d))
  stO j y
  stO i x)
/-- name += an int -/
def addO (i : Nat) (x y : Opd) : M Unit := match x, y with
  | .val (.int a), .val (.int b) => stO i (.val (.int (a + b)))
  | _, _ => stuckM
mutual
noncomputable def semS (T : Tb) : IS → M Fl
  | .expr e => drop (sem T e).E
  | .ret e => mRet (sem T e).E
  | .retN => pure (.ret (.val .non))
  | .set i e => thenN ((sem T e).E >>= stO i)
  | .asg t e => thenN (do let o ← (sem T e).E; let d ← toD o; Tg.put t d)
  | .par i j a b => mPar i j (sem T a).E (sem T b).E
  | .put o i v => thenN (do
      let v ← (sem T v).E
      let v ← toD v
      let o ← (sem T o).E
      let i ← (sem T i).E
      let i ← toD i
      putO o i v)
  | .aug i e => thenN (do let x ← mVar i; let y ← (sem T e).E; addO i x y)
  | .ife c a b => do let k ← (sem T c).T; if k = true then semSs T a else semSs T b
  | .whl c b => mWhl (sem T c).T (semSs T b)
  | .fo t src b => do let w ← (sem T src).I; let w ← settle w; forGo w t (semSs T b) w.ds
  | .brk => pure .brk
  | .cont => pure .cont
  | .pass => pure .next
noncomputable def semSs (T : Tb) : ISs → M Fl
  | .nil => pure .next
  | .cons s ss => mSeq (semS T s) (semSs T ss)
end

/-! ### functions -/
mutual
/-- all places are below n -/
def D.low (n : Nat) : D → Bool
  | .ref l => decide (l < n)
  | .tup ds => D.lows n ds
  | _ => true
def D.lows (n : Nat) : List D → Bool
  | [] => true
  | d :: ds => D.low n d && D.lows n ds
end
def Node.low (n : Nat) : Node → Bool
  | .lst ds => D.lows n ds
  | .fro ds => D.lows n ds
  | .dct kvs => kvs.all fun p => D.low n p.1 && D.low n p.2
  | .ins _ fs => fs.all fun p => D.low n p.2
def RV.low (n : Nat) : RV → Bool
  | .val d => D.low n d
  | .node x => Node.low n x
/-- what was laid since is forgotten, if nothing leads there -/
def gc (n : Nat) (r : RV) (h : List Node) : List Node := if (RV.low n r && (h.take n).all (Node.low n)) = true then h.take n else h
/-- a function: so many slots, its parameters first -/
def mkF (slots : Nat) (body : M Fl) : FnD := fun ds h => match body ⟨ds.map .val ++ List.replicate (slots - ds.length) .unset, h⟩ with
  | .ok (.ret r) s => .ret r (gc h.length r s.hp)
  | .ok .next s => .ret (.val .non) (gc h.length (.val .non) s.hp)
  | .exc x s => .exc x s.hp
  | _ => .stuck
end Y

/-! Y2: how a state of the small language lies in the heap. -/
set_option linter.all false
set_option maxRecDepth 100000
set_option Elab.async false
set_option autoImplicit false
namespace Y
open PySem PySem.Spec L2
abbrev Frag := PySem.W.Frag
mutual
/-- a value, as it lies -/
inductive Rep (K : Frag) (H : Hp) (ι : List Addr) : V → D → Prop where
  | non : Rep K H ι .non .non
  | bl (b : Bool) : Rep K H ι (.bl b) (.bl b)
  | int (i : Int) : Rep K H ι (.int i) (.int i)
  | str (x : Str) : Rep K H ι (.str x) (.str x)
  | tup {a : Addr} {vs : List V} {ds : List D} : SqT K H a vs → Reps K H ι vs ds → Rep K H ι (.ref a) (.tup ds)
  | ref {l : Nat} {a : Addr} : ι[l]? = some a → Rep K H ι (.ref a) (.ref l)
inductive Reps (K : Frag) (H : Hp) (ι : List Addr) : List V → List D → Prop where
  | nil : Reps K H ι [] []
  | cons {v : V} {vs : List V} {d : D} {ds : List D} : Rep K H ι v d → Reps K H ι vs ds → Reps K H ι (v :: vs) (d :: ds)
end
def keyD : Key → D
  | .inl i => .int i
  | .inr x => .str x
def FroOk (K : Frag) (H : Hp) (a : Addr) (xs : List V) : Prop :=
  (∃ o, H a = some (.frz o (.lst xs))) ∨
    ∃ (o : Obj) (its : Array Value) (n : Nat), K.lookup a = some o ∧ o.cls = .type "list" ∧ o.dict = none ∧ o.data = .seq its n ∧ its.size ≤ sizeLine ∧ Vals xs its.toList
theorem FroOk.sq {K : Frag} {H : Hp} {a : Addr} {xs : List V} (h : FroOk K H a xs) : SqL K H a xs := by
  rcases h with ⟨o, h⟩ | h
  · exact .inl (.inr ⟨o, h⟩)
  · exact .inr h
def NodeOk (K : Frag) (H : Hp) (ι : List Addr) (a : Addr) : Node → Prop
  | .lst ds => ∃ vs, H a = some (.lst vs) ∧ Reps K H ι vs ds
  | .fro ds => ∃ vs, FroOk K H a vs ∧ Reps K H ι vs ds
  | .dct kvs => (∃ ks : List (Key × V), H a = some (.dK ks) ∧ Paired (fun (p : D × D) (q : Key × V) => p.1 = keyD q.1 ∧ Rep K H ι q.2 p.2) kvs ks) ∨
      ∃ ks : List (List Key × V), H a = some (.dT ks) ∧ Paired (fun (p : D × D) (q : List Key × V) => p.1 = .tup (q.1.map keyD) ∧ Rep K H ι q.2 p.2) kvs ks
  | .ins _ _ => False
abbrev Hold := Sum Nat Nat
/-- who holds a node: a slot, or a place -/
inductive At (ι : List Addr) (s : St) (σ : L2.St) : Hold → Addr → Node → Prop where
  | cell {l : Nat} {a : Addr} {n : Node} : s.hp[l]? = some n → ι[l]? = some a → At ι s σ (.inr l) a n
  | slot {i : Nat} {a : Addr} {n : Node} : s.sl[i]? = some (.own n) → σ[i]? = some (some (.ref a)) → At ι s σ (.inl i) a n
structure Rel (K : Frag) (ι : List Addr) (s : St) (σ : L2.St) (H : Hp) : Prop where
  hlen : ι.length = s.hp.length
  slen : s.sl.length = σ.length
  ok : ∀ x a n, At ι s σ x a n → NodeOk K H ι a n
  slot : ∀ (i : Nat) (d : D), s.sl[i]? = some (.val d) → ∃ v, σ[i]? = some (some v) ∧ Rep K H ι v d
  own : ∀ (i : Nat) (n : Node), s.sl[i]? = some (.own n) → ∃ a, σ[i]? = some (some (.ref a))
  uniq : ∀ x y a n n', At ι s σ x a n → At ι s σ y a n' → n.mut = true → n'.mut = true → x = y
/-- nobody who may change it holds it -/
def Loose (ι : List Addr) (s : St) (σ : L2.St) (a : Addr) : Prop := ∀ x n, At ι s σ x a n → n.mut = false
structure Stp (ι : List Addr) (s : St) (σ : L2.St) (H : Hp) (ι' : List Addr) (s' : St) (σ' : L2.St) (H' : Hp) : Prop where
  pre : ∃ ext, ι' = ι ++ ext
  frame : ∀ a o, H a = some o → Loose ι s σ a → H' a = some o
  fresh : ∀ x a n, At ι' s' σ' x a n → n.mut = true → ¬ Loose ι s σ a ∨ H a = none
  there : ∀ a o, H a = some o → ∃ o', H' a = some o'
  stay : ∀ (l : Nat) (n : Node), s.hp[l]? = some n → n.mut = true → ∃ n', s'.hp[l]? = some n' ∧ n'.mut = true
theorem NodeOk.some {K : Frag} {H : Hp} {ι : List Addr} {a : Addr} {n : Node} (h : NodeOk K H ι a n) (m : n.mut = true) : ∃ o, H a = some o ∧ (∀ xs, o ≠ .tup xs) ∧ (∀ ob u, o ≠ .frz ob u) := by
  cases n with
  | lst ds => obtain ⟨vs, h, _⟩ := h; exact ⟨_, h, fun _ => nofun, fun _ _ => nofun⟩
  | fro ds => cases m
  | dct kvs => rcases h with ⟨ks, h, _⟩ | ⟨ks, h, _⟩ <;> exact ⟨_, h, fun _ => nofun, fun _ _ => nofun⟩
  | ins _ _ => exact h.elim
theorem not_loose {ι : List Addr} {s : St} {σ : L2.St} {a : Addr} (h : ¬ Loose ι s σ a) : ∃ x n, At ι s σ x a n ∧ n.mut = true := by
  apply Classical.byContradiction
  intro q
  refine h fun x n hx => ?_
  cases e : n.mut with
  | false => rfl
  | true => exact (q ⟨x, n, hx, e⟩).elim
theorem Stp.refl {ι : List Addr} {s : St} {σ : L2.St} {H : Hp} : Stp ι s σ H ι s σ H :=
  ⟨⟨[], by simp⟩, fun _ _ e _ => e, fun x a n h m => .inl (fun l => by rw [l x n h] at m; cases m), fun _ o e => ⟨o, e⟩, fun _ n e m => ⟨n, e, m⟩⟩
theorem Stp.trans {ι ι' ι2 : List Addr} {s s' s2 : St} {σ σ' σ2 : L2.St} {H H' H2 : Hp} (a : Stp ι s σ H ι' s' σ' H') (b : Stp ι' s' σ' H' ι2 s2 σ2 H2) : Stp ι s σ H ι2 s2 σ2 H2 := by
  obtain ⟨e1, p1⟩ := a.pre
  obtain ⟨e2, p2⟩ := b.pre
  refine ⟨⟨e1 ++ e2, by rw [p2, p1, List.append_assoc]⟩, fun c o e l => b.frame c o (a.frame c o e l) fun x n hx => ?_, fun x c n hx m => ?_, fun c o e => ?_, fun l n e m => ?_⟩
  · cases m : n.mut with
    | false => rfl
    | true =>
      rcases a.fresh x c n hx m with q | q
      · exact (q l).elim
      · rw [e] at q; cases q
  · rcases b.fresh x c n hx m with q | q
    · obtain ⟨y, n', hy, m'⟩ := not_loose q
      exact a.fresh y c n' hy m'
    · by_cases l : Loose ι s σ c
      · right
        cases e : H c with
        | none => rfl
        | some o => rw [a.frame c o e l] at q; cases q
      · exact .inl l
  · obtain ⟨o', e'⟩ := a.there c o e
    exact b.there c o' e'
  · obtain ⟨n', e', m'⟩ := a.stay l n e m
    exact b.stay l n' e' m'
theorem Stp.none {ι ι' : List Addr} {s s' : St} {σ σ' : L2.St} {H H' : Hp} (a : Stp ι s σ H ι' s' σ' H') {p : Addr} (h : H' p = none) : H p = none := by
  cases e : H p with
  | none => rfl
  | some o => obtain ⟨o', e'⟩ := a.there p o e; rw [h] at e'; cases e'
theorem Rel.loose {K : Frag} {ι : List Addr} {s : St} {σ : L2.St} {H : Hp} (R : Rel K ι s σ H) {a : Addr} {o : HO} (e : H a = some o) (h : (∃ xs, o = .tup xs) ∨ ∃ ob u, o = .frz ob u) : Loose ι s σ a := fun x n hx => by
  cases m : n.mut with
  | false => rfl
  | true =>
    obtain ⟨o', e', q1, q2⟩ := (R.ok x a n hx).some m
    rw [e] at e'
    cases e'
    rcases h with ⟨xs, h⟩ | ⟨ob, u, h⟩
    · exact (q1 xs h).elim
    · exact (q2 ob u h).elim
section
variable {K : Frag} {ι ι' : List Addr} {s s' : St} {σ σ' : L2.St} {H H' : Hp}
/-- what reads a tuple stays -/
structure Keeps (ι : List Addr) (H : Hp) (ι' : List Addr) (H' : Hp) : Prop where
  pre : ∃ ext, ι' = ι ++ ext
  tup : ∀ a xs, H a = some (.tup xs) → H' a = some (.tup xs)
  frz : ∀ a o u, H a = some (.frz o u) → H' a = some (.frz o u)
theorem Stp.keeps (a : Stp ι s σ H ι' s' σ' H') (R : Rel K ι s σ H) : Keeps ι H ι' H' :=
  ⟨a.pre, fun _ _ e => a.frame _ _ e (R.loose e (.inl ⟨_, rfl⟩)), fun _ _ _ e => a.frame _ _ e (R.loose e (.inr ⟨_, _, rfl⟩))⟩
theorem Keeps.sqT (k : Keeps ι H ι' H') {a : Addr} {vs : List V} (h : SqT K H a vs) : SqT K H' a vs := by
  rcases h with (h | ⟨o, h⟩) | h
  · exact .inl (.inl (k.tup _ _ h))
  · exact .inl (.inr ⟨o, k.frz _ _ _ h⟩)
  · exact .inr h
theorem Keeps.fro (k : Keeps ι H ι' H') {a : Addr} {vs : List V} (h : FroOk K H a vs) : FroOk K H' a vs := by
  rcases h with ⟨o, h⟩ | h
  · exact .inl ⟨o, k.frz _ _ _ h⟩
  · exact .inr h
theorem pre_get {α : Type} {l l' : List α} {i : Nat} {x : α} (p : ∃ ext, l' = l ++ ext) (h : l[i]? = some x) : l'[i]? = some x := by
  obtain ⟨e, rfl⟩ := p
  rw [List.getElem?_append_left (List.getElem?_eq_some_iff.mp h).1]
  exact h
mutual
theorem Rep.keep (k : Keeps ι H ι' H') : ∀ {v : V} {d : D}, Rep K H ι v d → Rep K H' ι' v d
  | _, _, .non => .non
  | _, _, .bl b => .bl b
  | _, _, .int i => .int i
  | _, _, .str x => .str x
  | _, _, .tup h hs => .tup (k.sqT h) (Reps.keep k hs)
  | _, _, .ref h => .ref (pre_get k.pre h)
theorem Reps.keep (k : Keeps ι H ι' H') : ∀ {vs : List V} {ds : List D}, Reps K H ι vs ds → Reps K H' ι' vs ds
  | _, _, .nil => .nil
  | _, _, .cons h hs => .cons (Rep.keep k h) (Reps.keep k hs)
end
theorem Paired.imp {α β : Type} {F G : α → β → Prop} : ∀ {l₁ : List α} {l₂ : List β}, Paired F l₁ l₂ → (∀ a b, F a b → G a b) → Paired G l₁ l₂
  | _, _, .nil, _ => .nil
  | _, _, .cons r t, f => .cons (f _ _ r) (Paired.imp t f)
/-- a node at a place that is as it was -/
theorem NodeOk.keep (k : Keeps ι H ι' H') {a : Addr} {n : Node} (h : NodeOk K H ι a n) (e : n.mut = true → H' a = H a) : NodeOk K H' ι' a n := by
  cases n with
  | lst ds => obtain ⟨vs, h, r⟩ := h; exact ⟨vs, by rw [e rfl]; exact h, r.keep k⟩
  | fro ds => obtain ⟨vs, h, r⟩ := h; exact ⟨vs, k.fro h, r.keep k⟩
  | dct kvs =>
    rcases h with ⟨ks, h, r⟩ | ⟨ks, h, r⟩
    · exact .inl ⟨ks, by rw [e rfl]; exact h, Paired.imp r fun a b q => ⟨q.1, q.2.keep k⟩⟩
    · exact .inr ⟨ks, by rw [e rfl]; exact h, Paired.imp r fun a b q => ⟨q.1, q.2.keep k⟩⟩
  | ins _ _ => exact h
theorem Reps.length : ∀ {vs : List V} {ds : List D}, Reps K H ι vs ds → vs.length = ds.length
  | _, _, .nil => rfl
  | _, _, .cons _ hs => congrArg (· + 1) hs.length
theorem Reps.get : ∀ {vs : List V} {ds : List D} {i : Nat} {d : D}, Reps K H ι vs ds → ds[i]? = some d → ∃ v, vs[i]? = some v ∧ Rep K H ι v d
  | _, _, _, _, .nil, e => by simp at e
  | _, _, 0, _, .cons h _, e => by simp at e; subst e; exact ⟨_, rfl, h⟩
  | _, _, i + 1, d, .cons _ hs, e => by
    obtain ⟨v, h1, h2⟩ := Reps.get (i := i) (d := d) hs (by simpa using e)
    exact ⟨v, by simpa using h1, h2⟩
theorem Reps.get' : ∀ {vs : List V} {ds : List D} {i : Nat} {v : V}, Reps K H ι vs ds → vs[i]? = some v → ∃ d, ds[i]? = some d ∧ Rep K H ι v d
  | _, _, _, _, .nil, e => by simp at e
  | _, _, 0, _, .cons h _, e => by simp at e; subst e; exact ⟨_, rfl, h⟩
  | _, _, i + 1, d, .cons _ hs, e => by
    obtain ⟨v, h1, h2⟩ := Reps.get' (i := i) (v := d) hs (by simpa using e)
    exact ⟨v, by simpa using h1, h2⟩
theorem Reps.append : ∀ {vs ws : List V} {ds es : List D}, Reps K H ι vs ds → Reps K H ι ws es → Reps K H ι (vs ++ ws) (ds ++ es)
  | _, _, _, _, .nil, h => h
  | _, _, _, _, .cons h hs, q => .cons h (hs.append q)
theorem Reps.set {v : V} {d : D} (r : Rep K H ι v d) : ∀ {vs : List V} {ds : List D} (i : Nat), Reps K H ι vs ds → Reps K H ι (vs.set i v) (ds.set i d)
  | _, _, _, .nil => .nil
  | _, _, 0, .cons _ t => .cons r t
  | _, _, i + 1, .cons q t => .cons q (Reps.set r i t)
theorem Reps.take : ∀ {vs : List V} {ds : List D} (n : Nat), Reps K H ι vs ds → Reps K H ι (vs.take n) (ds.take n)
  | _, _, 0, _ => .nil
  | _, _, _ + 1, .nil => .nil
  | _, _, n + 1, .cons r t => .cons r (Reps.take n t)
theorem Reps.drop : ∀ {vs : List V} {ds : List D} (n : Nat), Reps K H ι vs ds → Reps K H ι (vs.drop n) (ds.drop n)
  | _, _, 0, r => r
  | _, _, _ + 1, .nil => .nil
  | _, _, n + 1, .cons _ t => Reps.drop n t
theorem Reps.eraseIdx : ∀ {vs : List V} {ds : List D} (i : Nat), Reps K H ι vs ds → Reps K H ι (vs.eraseIdx i) (ds.eraseIdx i)
  | _, _, _, .nil => .nil
  | _, _, 0, .cons _ t => t
  | _, _, i + 1, .cons r t => .cons r (Reps.eraseIdx i t)
theorem Reps.dropLast {vs : List V} {ds : List D} (h : Reps K H ι vs ds) : Reps K H ι vs.dropLast ds.dropLast := by
  rw [List.dropLast_eq_take, List.dropLast_eq_take, h.length]
  exact h.take _
theorem Reps.reverse : ∀ {vs : List V} {ds : List D}, Reps K H ι vs ds → Reps K H ι vs.reverse ds.reverse
  | _, _, .nil => .nil
  | _, _, .cons r t => by rw [List.reverse_cons, List.reverse_cons]; exact t.reverse.append (.cons r .nil)
theorem Reps.rep {vs : List V} {ds : List D} (h : Reps K H ι vs ds) : ∀ k : Nat, Reps K H ι (List.replicate k vs).flatten (List.replicate k ds).flatten
  | 0 => .nil
  | k + 1 => by
    rw [List.replicate_succ, List.replicate_succ, List.flatten_cons, List.flatten_cons]
    exact h.append (Reps.rep h k)
theorem Reps.ints : ∀ {vs : List V} {ds : List D} {is : List Int}, Reps K H ι vs ds → D.ints ds = some is → vs = is.map V.int
  | _, _, _, .nil, e => by simp [D.ints] at e; subst e; rfl
  | _, _, is, .cons (ds := ds) h hs, e => by
    cases h with
    | int i =>
      simp only [D.ints, Option.map_eq_some_iff] at e
      obtain ⟨js, e, rfl⟩ := e
      rw [hs.ints e]; rfl
    | _ => simp [D.ints] at e
theorem Reps.bools : ∀ {vs : List V} {ds : List D} {is : List Bool}, Reps K H ι vs ds → D.bools ds = some is → vs = is.map V.bl
  | _, _, _, .nil, e => by simp [D.bools] at e; subst e; rfl
  | _, _, is, .cons (ds := ds) h hs, e => by
    cases h with
    | bl i =>
      simp only [D.bools, Option.map_eq_some_iff] at e
      obtain ⟨js, e, rfl⟩ := e
      rw [hs.bools e]; rfl
    | _ => simp [D.bools] at e
theorem Reps.strs : ∀ {vs : List V} {ds : List D} {is : List Str}, Reps K H ι vs ds → D.strs ds = some is → vs = is.map V.str
  | _, _, _, .nil, e => by simp [D.strs] at e; subst e; rfl
  | _, _, is, .cons (ds := ds) h hs, e => by
    cases h with
    | str i =>
      simp only [D.strs, Option.map_eq_some_iff] at e
      obtain ⟨js, e, rfl⟩ := e
      rw [hs.strs e]; rfl
    | _ => simp [D.strs] at e

/-! ### operands -/
def OpdOk (K : Frag) (H : Hp) (ι : List Addr) (s : St) (σ : L2.St) (v : V) : Opd → Prop
  | .val d => Rep K H ι v d
  | .own i => σ[i]? = some (some v)
  | .tmp n => ∃ a, v = .ref a ∧ NodeOk K H ι a n ∧ (n.mut = true → Loose ι s σ a)
/-- .. made since H -/
def NewOk (H : Hp) (v : V) : Opd → Prop
  | .tmp n => n.mut = true → ∀ a, v = .ref a → H a = none
  | _ => True
theorem Stp.loose (a : Stp ι s σ H ι' s' σ' H') {c : Addr} {o : HO} (e : H c = some o) (l : Loose ι s σ c) : Loose ι' s' σ' c := fun x n hx => by
  cases m : n.mut with
  | false => rfl
  | true =>
    rcases a.fresh x c n hx m with q | q
    · exact (q l).elim
    · rw [e] at q; cases q
theorem NodeOk.stp (R : Rel K ι s σ H) (a : Stp ι s σ H ι' s' σ' H') {c : Addr} {n : Node} (h : NodeOk K H ι c n) (l : n.mut = true → Loose ι s σ c) : NodeOk K H' ι' c n ∧ (n.mut = true → Loose ι' s' σ' c) := by
  refine ⟨h.keep (a.keeps R) fun m => ?_, fun m => ?_⟩
  · obtain ⟨o, e, _⟩ := h.some m
    rw [e, a.frame c o e (l m)]
  · obtain ⟨o, e, _⟩ := h.some m
    exact a.loose e (l m)
/-- an operand stays while another one is met -/
theorem OpdOk.stp (R : Rel K ι s σ H) (a : Stp ι s σ H ι' s' σ H') {v : V} {o : Opd} (h : OpdOk K H ι s σ v o) : OpdOk K H' ι' s' σ v o := by
  cases o with
  | val d => exact Rep.keep (a.keeps R) h
  | own i => exact h
  | tmp n =>
    obtain ⟨c, rfl, h, l⟩ := h
    exact ⟨c, rfl, NodeOk.stp R a h l⟩
/-- the node that an operand is -/
theorem node_ok (R : Rel K ι s σ H) {v : V} {o : Opd} {n : Node} (h : OpdOk K H ι s σ v o) (e : nodeOf o s = some n) : ∃ a, v = .ref a ∧ NodeOk K H ι a n ∧ (n.mut = true → (∃ x, At ι s σ x a n) ∨ Loose ι s σ a) := by
  have cell : ∀ {l : Nat}, Rep K H ι v (.ref l) → s.hp[l]? = some n → ∃ a, v = .ref a ∧ NodeOk K H ι a n ∧ (n.mut = true → (∃ x, At ι s σ x a n) ∨ Loose ι s σ a) := fun h e => by
    cases h with
    | ref h => exact ⟨_, rfl, R.ok _ _ _ (.cell e h), fun _ => .inl ⟨_, .cell e h⟩⟩
  cases o with
  | val d =>
    cases d with
    | ref l => exact cell h e
    | _ => cases e
  | own i =>
    simp only [nodeOf] at e
    cases q : s.sl[i]? with
    | none => rw [q] at e; cases e
    | some z =>
      rw [q] at e
      cases z with
      | unset => cases e
      | own n' =>
        cases e
        obtain ⟨a, ha⟩ := R.own _ _ q
        have hv : σ[i]? = some (some v) := h
        rw [ha] at hv; cases hv
        exact ⟨a, rfl, R.ok _ _ _ (.slot q ha), fun _ => .inl ⟨_, .slot q ha⟩⟩
      | val d =>
        cases d with
        | ref l =>
          obtain ⟨v', hv', r⟩ := R.slot _ _ q
          have hv : σ[i]? = some (some v) := h
          rw [hv'] at hv; cases hv
          exact cell r e
        | _ => cases e
  | tmp n' =>
    cases e
    obtain ⟨a, rfl, h, l⟩ := h
    exact ⟨a, rfl, h, fun m => .inr (l m)⟩
theorem lst_ok (R : Rel K ι s σ H) {v : V} {o : Opd} {ds : List D} (h : OpdOk K H ι s σ v o) (e : lstOf o s = some ds) : ∃ a vs, v = .ref a ∧ SqL K H a vs ∧ Reps K H ι vs ds := by
  unfold lstOf at e
  cases q : nodeOf o s with
  | none => rw [q] at e; cases e
  | some n =>
    rw [q] at e
    obtain ⟨a, rfl, h, _⟩ := node_ok R h q
    cases n with
    | lst xs => cases e; obtain ⟨vs, h, r⟩ := h; exact ⟨a, vs, rfl, SqL.of h, r⟩
    | fro xs => cases e; obtain ⟨vs, h, r⟩ := h; exact ⟨a, vs, rfl, h.sq, r⟩
    | _ => cases e
theorem seq_ok (R : Rel K ι s σ H) {v : V} {o : Opd} {ds : List D} (h : OpdOk K H ι s σ v o) (e : seqOf o s = some ds) : ∃ a vs, v = .ref a ∧ (SqL K H a vs ∨ SqT K H a vs) ∧ Reps K H ι vs ds := by
  have l : lstOf o s = some ds → ∃ a vs, v = .ref a ∧ (SqL K H a vs ∨ SqT K H a vs) ∧ Reps K H ι vs ds := fun e => by
    obtain ⟨a, vs, h1, h2, h3⟩ := lst_ok R h e
    exact ⟨a, vs, h1, .inl h2, h3⟩
  cases o with
  | val d =>
    cases d with
    | tup xs =>
      cases e
      cases h with
      | tup h r => exact ⟨_, _, rfl, .inr h, r⟩
    | _ => exact l e
  | _ => exact l e

/-! ### steps -/
/-- what an evaluation leaves -/
structure Post (K : Frag) (ι : List Addr) (s : St) (σ : L2.St) (H : Hp) (ι' : List Addr) (s' : St) (H' : Hp) : Prop where
  stp : Stp ι s σ H ι' s' σ H'
  rel : Rel K ι' s' σ H'
theorem Post.refl (R : Rel K ι s σ H) : Post K ι s σ H ι s H := ⟨.refl, R⟩
theorem Post.trans {ι2 : List Addr} {s2 : St} {H2 : Hp} (a : Post K ι s σ H ι' s' H') (b : Post K ι' s' σ H' ι2 s2 H2) : Post K ι s σ H ι2 s2 H2 := ⟨a.stp.trans b.stp, b.rel⟩
/-- more is tracked -/
theorem Keeps.of_le (h : ∀ a o, H a = some o → H' a = some o) : Keeps ι H ι H' := ⟨⟨[], by simp⟩, fun _ _ e => h _ _ e, fun _ _ _ e => h _ _ e⟩
theorem Rel.more (R : Rel K ι s σ H) (h : ∀ a o, H a = some o → H' a = some o) : Rel K ι s σ H' where
  hlen := R.hlen
  slen := R.slen
  ok := fun x a n hx => (R.ok x a n hx).keep (.of_le h) fun m => by
    obtain ⟨o, e, _⟩ := (R.ok x a n hx).some m
    rw [e, h _ _ e]
  slot := fun i d e => by
    obtain ⟨v, h1, h2⟩ := R.slot i d e
    exact ⟨v, h1, h2.keep (.of_le h)⟩
  own := R.own
  uniq := R.uniq
theorem Post.more (R : Rel K ι s σ H) (h : ∀ a o, H a = some o → H' a = some o) : Post K ι s σ H ι s H' :=
  ⟨⟨⟨[], by simp⟩, fun a o e _ => h a o e, fun x a n hx m => .inl (fun l => by rw [l x n hx] at m; cases m), fun a o e => ⟨o, h a o e⟩, fun _ n e m => ⟨n, e, m⟩⟩, R.more h⟩
theorem le_upd {p : Addr} {o : HO} (n : H p = none) : ∀ a u, H a = some u → upd H p o a = some u := fun a u e => by
  rw [upd_ne (ne_of_none e n)]; exact e
/-- the holder's node is another one -/
def Hold.put (x : Hold) (n : Node) (s : St) : St := match x with
  | .inl i => { s with sl := s.sl.set i (.own n) }
  | .inr l => { s with hp := s.hp.set l n }
theorem At.put {x y : Hold} {a b : Addr} {n n' n2 : Node} (h : At ι s σ x a n) (q : At ι (x.put n' s) σ y b n2) : (y = x ∧ b = a ∧ n2 = n') ∨ (y ≠ x ∧ At ι s σ y b n2) := by
  cases h with
  | cell h1 h2 =>
    rename_i l
    cases q with
    | cell q1 q2 =>
      rename_i l'
      have q1 : (s.hp.set l n')[l']? = some n2 := q1
      by_cases e : l' = l
      · subst e
        rw [List.getElem?_set_self (List.getElem?_eq_some_iff.mp h1).1] at q1
        cases q1
        rw [h2] at q2; cases q2
        exact .inl ⟨rfl, rfl, rfl⟩
      · rw [List.getElem?_set_ne (Ne.symm e)] at q1
        exact .inr ⟨fun z => e (Sum.inr.inj z), .cell q1 q2⟩
    | slot q1 q2 => exact .inr ⟨(by intro z; cases z), .slot q1 q2⟩
  | slot h1 h2 =>
    rename_i l
    cases q with
    | slot q1 q2 =>
      rename_i l'
      have q1 : (s.sl.set l (.own n'))[l']? = some (.own n2) := q1
      by_cases e : l' = l
      · subst e
        rw [List.getElem?_set_self (List.getElem?_eq_some_iff.mp h1).1] at q1
        cases q1
        rw [h2] at q2; cases q2
        exact .inl ⟨rfl, rfl, rfl⟩
      · rw [List.getElem?_set_ne (Ne.symm e)] at q1
        exact .inr ⟨fun z => e (Sum.inl.inj z), .slot q1 q2⟩
    | cell q1 q2 => exact .inr ⟨(by intro z; cases z), .cell q1 q2⟩
theorem Rel.put (R : Rel K ι s σ H) {x : Hold} {a : Addr} {n n' : Node} {o : HO} (h : At ι s σ x a n) (m : n.mut = true) (m' : n'.mut = true) (hk : ∀ xs, o ≠ .tup xs)
    (new : Keeps ι H ι (upd H a o) → NodeOk K (upd H a o) ι a n') : Post K ι s σ H ι (x.put n' s) (upd H a o) := by
  obtain ⟨o', e, q1, q2⟩ := (R.ok x a n h).some m
  have kp : Keeps ι H ι (upd H a o) := ⟨⟨[], by simp⟩, fun b xs eb => by rw [upd_ne (ne_of eb e (Ne.symm (q1 xs)))]; exact eb, fun b ob u eb => by rw [upd_ne (ne_of eb e (Ne.symm (q2 ob u)))]; exact eb⟩
  have other : ∀ b u, H b = some u → Loose ι s σ b → upd H a o b = some u := fun b u eb l => by
    have : b ≠ a := fun z => by subst z; rw [l x n h] at m; cases m
    rw [upd_ne this]; exact eb
  refine ⟨⟨⟨[], by simp⟩, other, fun y b n2 hy m2 => ?_, fun b u eb => ?_, fun j n2 ej m2 => ?_⟩, ?_⟩
  · rcases At.put h hy with ⟨rfl, rfl, rfl⟩ | ⟨_, hy⟩
    · exact .inl fun l => by rw [l _ n h] at m; cases m
    · exact .inl fun l => by rw [l y n2 hy] at m2; cases m2
  · by_cases z : b = a
    · subst z; exact ⟨_, upd_same⟩
    · exact ⟨u, by rw [upd_ne z]; exact eb⟩
  · cases x with
    | inl i => exact ⟨n2, ej, m2⟩
    | inr l =>
      show ∃ n3, (s.hp.set l n')[j]? = some n3 ∧ n3.mut = true
      by_cases z : l = j
      · subst z
        exact ⟨n', List.getElem?_set_self (List.getElem?_eq_some_iff.mp ej).1, m'⟩
      · exact ⟨n2, by rw [List.getElem?_set_ne z]; exact ej, m2⟩
  · refine ⟨?_, ?_, fun y b n2 hy => ?_, fun i d ei => ?_, fun i n2 ei => ?_, fun y z b n2 n3 hy hz m2 m3 => ?_⟩
    · cases x <;> simp [Hold.put, R.hlen]
    · cases x <;> simp [Hold.put, R.slen]
    · rcases At.put h hy with ⟨rfl, rfl, rfl⟩ | ⟨ne, hy⟩
      · exact new kp
      · refine (R.ok y b n2 hy).keep kp fun m2 => ?_
        refine upd_ne fun z => ?_
        subst z
        exact ne (R.uniq _ _ _ _ _ hy h m2 m)
    · have ei' : s.sl[i]? = some (.val d) := by
        cases x with
        | inr l => exact ei
        | inl j =>
          have ei : (s.sl.set j (.own n'))[i]? = some (.val d) := ei
          by_cases ej : j = i
          · subst ej
            cases h with
            | slot h1 h2 => rw [List.getElem?_set_self (List.getElem?_eq_some_iff.mp h1).1] at ei; cases ei
          · rw [List.getElem?_set_ne ej] at ei; exact ei
      obtain ⟨v, h1, h2⟩ := R.slot i d ei'
      exact ⟨v, h1, h2.keep kp⟩
    · cases x with
      | inr l => exact R.own i n2 ei
      | inl j =>
        have ei : (s.sl.set j (.own n'))[i]? = some (.own n2) := ei
        by_cases ej : j = i
        · subst ej
          cases h with
          | slot h1 h2 => exact ⟨_, h2⟩
        · rw [List.getElem?_set_ne ej] at ei; exact R.own i n2 ei
    · have mm : ∀ {w c n4}, At ι (x.put n' s) σ w c n4 → n4.mut = true → ∃ n5, At ι s σ w c n5 ∧ n5.mut = true := fun {w c n4} hw m4 => by
        rcases At.put h hw with ⟨rfl, rfl, rfl⟩ | ⟨_, hw⟩
        · exact ⟨n, h, m⟩
        · exact ⟨n4, hw, m4⟩
      obtain ⟨n5, h5, m5⟩ := mm hy m2
      obtain ⟨n6, h6, m6⟩ := mm hz m3
      exact R.uniq _ _ _ _ _ h5 h6 m5 m6
/-- a node becomes a shared one -/
theorem Rel.share (R : Rel K ι s σ H) {a : Addr} {n : Node} (ok : NodeOk K H ι a n) (l : n.mut = true → Loose ι s σ a) : Rel K (ι ++ [a]) { s with hp := s.hp ++ [n] } σ H := by
  have kp : Keeps ι H (ι ++ [a]) H := ⟨⟨[a], rfl⟩, fun _ _ e => e, fun _ _ _ e => e⟩
  have at_ : ∀ {y b n2}, At (ι ++ [a]) { s with hp := s.hp ++ [n] } σ y b n2 → (y = .inr s.hp.length ∧ b = a ∧ n2 = n) ∨ At ι s σ y b n2 := fun {y b n2} hy => by
    cases hy with
    | cell h1 h2 =>
      rename_i j
      have h1 : (s.hp ++ [n])[j]? = some n2 := h1
      by_cases e : j < s.hp.length
      · rw [List.getElem?_append_left e] at h1
        rw [List.getElem?_append_left (by rw [R.hlen]; exact e)] at h2
        exact .inr (.cell h1 h2)
      · have : j = s.hp.length := by
          have := (List.getElem?_eq_some_iff.mp h1).1
          simp at this; omega
        subst this
        simp at h1
        rw [← R.hlen] at h2
        simp at h2
        exact .inl ⟨rfl, h2.symm, h1.symm⟩
    | slot h1 h2 => exact .inr (.slot h1 h2)
  refine ⟨by simp [R.hlen], R.slen, fun y b n2 hy => ?_, fun i d e => ?_, R.own, fun y z b n2 n3 hy hz m2 m3 => ?_⟩
  · rcases at_ hy with ⟨_, rfl, rfl⟩ | hy
    · exact ok.keep kp fun _ => rfl
    · exact (R.ok y b n2 hy).keep kp fun _ => rfl
  · obtain ⟨v, h1, h2⟩ := R.slot i d e
    exact ⟨v, h1, h2.keep kp⟩
  · rcases at_ hy with ⟨rfl, rfl, rfl⟩ | hy2
    · rcases at_ hz with ⟨rfl, _, rfl⟩ | hz2
      · rfl
      · rw [l m2 _ _ hz2] at m3; cases m3
    · rcases at_ hz with ⟨rfl, rfl, rfl⟩ | hz2
      · rw [l m3 _ _ hy2] at m2; cases m2
      · exact R.uniq _ _ _ _ _ hy2 hz2 m2 m3
end
end Y

/-! Y3: what each operation leaves. -/
set_option linter.all false
set_option maxRecDepth 100000
set_option Elab.async false
set_option autoImplicit false
namespace Y
open PySem PySem.Spec L2
/-- what is wanted of exceptions: whether there may be some, and of one that comes -/
structure ExP where
  on : Prop
  hit : Exn → List Addr → St → L2.St → Hp → Prop
/-- none -/
def Ex0 : ExP := ⟨False, fun _ _ _ _ _ => False⟩
/-- what an outcome must be -/
def OutG {α : Type} (K : Frag) (ι : List Addr) (s : St) (σ : L2.St) (H : Hp) (Ex : ExP) (B : α → St → Prop) : Res α → Prop
  | .ok a s' => B a s'
  | .exc x s' => Ex.on ∧ ∀ ι' H', Post K ι s σ H ι' s' H' → Ex.hit x ι' s' σ H'
  | .stuck => False
/-- an operand that is wanted -/
def BQ (K : Frag) (ι : List Addr) (s : St) (σ : L2.St) (H : Hp) (Q : VK) : Opd → St → Prop := fun o s' =>
  ∀ ι' v H', Post K ι s σ H ι' s' H' → OpdOk K H' ι' s' σ v o → NewOk H v o → Q v H'
def tE (K : Frag) (Ex : ExP) (m : M Opd) : TE := fun σ H Q => ∃ ι s, Rel K ι s σ H ∧ OutG K ι s σ H Ex (BQ K ι s σ H Q) (m s)
section
variable {K : Frag} {ι ι1 ι2 : List Addr} {s s1 s2 : St} {σ : L2.St} {H H1 H2 : Hp} {Ex : ExP}
theorem OutG.imp {α : Type} {B B' : α → St → Prop} {r : Res α} (h : OutG K ι s σ H Ex B r) (hB : ∀ a s', B a s' → B' a s') : OutG K ι s σ H Ex B' r := by
  cases r with
  | ok a s' => exact hB a s' h
  | exc x s' => exact h
  | stuck => exact h
theorem tE_mono {m : M Opd} {Q Q' : VK} (h : tE K Ex m σ H Q) (hQ : ∀ v H', Q v H' → Q' v H') : tE K Ex m σ H Q' := by
  obtain ⟨ι, s, R, h⟩ := h
  exact ⟨ι, s, R, h.imp fun o s' b ι' v H' p k n => hQ _ _ (b ι' v H' p k n)⟩
theorem NewOk.back {v : V} {o : Opd} (n : NewOk H1 v o) (P : Stp ι s σ H ι1 s1 σ H1) : NewOk H v o := by
  cases o with
  | tmp x => exact fun m a e => P.none (n m a e)
  | _ => trivial
/-- an expression is met, the rest goes on -/
theorem ev_next {β : Type} (P : Post K ι s σ H ι1 s1 H1) {m : M Opd} {g : Opd → M β} {B : β → St → Prop} (h : OutG K ι s σ H Ex B (M.bind m g s1)) :
    tE K Ex m σ H1 (fun v2 H2 => ∃ ι2 s2 o2, Post K ι s σ H ι2 s2 H2 ∧ Post K ι1 s1 σ H1 ι2 s2 H2 ∧ OpdOk K H2 ι2 s2 σ v2 o2 ∧ NewOk H1 v2 o2 ∧ OutG K ι s σ H Ex B (g o2 s2)) := by
  refine ⟨ι1, s1, P.rel, ?_⟩
  unfold M.bind at h
  cases e : m s1 with
  | ok o s2 =>
    rw [e] at h
    intro ι2 v2 H2 P2 k n
    exact ⟨ι2, s2, o, P.trans P2, P2, k, n, h⟩
  | exc x s2 =>
    rw [e] at h
    exact ⟨h.1, fun ι2 H2 P2 => h.2 ι2 H2 (P.trans P2)⟩
  | stuck => rw [e] at h; exact h.elim
/-- .. as a value -/
theorem toD_ok (R : Rel K ι1 s1 σ H1) {v : V} {o : Opd} {d : D} (k : OpdOk K H1 ι1 s1 σ v o) (e : toD o s1 = .ok d s2) :
    ∃ ι2, Rep K H1 ι2 v d ∧ ∀ {ιa : List Addr} {sa : St} {Ha : Hp}, Post K ιa sa σ Ha ι1 s1 H1 → NewOk Ha v o → Post K ιa sa σ Ha ι2 s2 H1 := by
  have re : ∀ {ιa : List Addr} {sa : St} {Ha : Hp} {a : Addr} {s2 : St}, Post K ιa sa σ Ha ι1 s1 H1 → Rel K (ι1 ++ [a]) s2 σ H1 →
      (∃ n, s2.hp = s1.hp ++ [n]) → (∀ x b n, At (ι1 ++ [a]) s2 σ x b n → n.mut = true → ¬ Loose ι1 s1 σ b ∨ Ha b = none) → Post K ιa sa σ Ha (ι1 ++ [a]) s2 H1 := fun {ιa sa Ha a s2} P R2 ⟨n0, en⟩ f =>
    ⟨⟨by obtain ⟨e, p⟩ := P.stp.pre; exact ⟨e ++ [a], by rw [p, List.append_assoc]⟩, P.stp.frame, fun x b n hx m => by
      rcases f x b n hx m with q | q
      · obtain ⟨y, n', hy, m'⟩ := not_loose q
        exact P.stp.fresh y b n' hy m'
      · exact .inr q, P.stp.there, fun l n e m => by
      obtain ⟨n', e', m'⟩ := P.stp.stay l n e m
      exact ⟨n', by rw [en, List.getElem?_append_left (List.getElem?_eq_some_iff.mp e').1]; exact e', m'⟩⟩, R2⟩
  cases o with
  | val d' =>
    cases e
    exact ⟨ι1, k, fun P _ => P⟩
  | tmp n =>
    cases e
    obtain ⟨a, rfl, ok, l⟩ := k
    have R2 := R.share ok l
    refine ⟨ι1 ++ [a], .ref (by rw [← R.hlen]; simp), fun P nw => re P R2 ⟨n, rfl⟩ fun x b n2 hx m => ?_⟩
    by_cases lb : Loose ι1 s1 σ b
    · right
      cases hx with
      | cell h1 h2 =>
        rename_i j
        have h1 : (s1.hp ++ [n])[j]? = some n2 := h1
        by_cases ej : j < s1.hp.length
        · rw [List.getElem?_append_left ej] at h1
          rw [List.getElem?_append_left (by rw [R.hlen]; exact ej)] at h2
          rw [lb _ _ (.cell h1 h2)] at m; cases m
        · have : j = s1.hp.length := by
            have := (List.getElem?_eq_some_iff.mp h1).1
            simp at this; omega
          subst this
          simp at h1
          rw [← R.hlen] at h2
          simp at h2
          subst h1 h2
          exact nw m _ rfl
      | slot h1 h2 => rw [lb _ _ (.slot h1 h2)] at m; cases m
    · exact .inl lb
  | own i =>
    simp only [toD] at e
    cases q : s1.sl[i]? with
    | none => rw [q] at e; cases e
    | some z =>
      rw [q] at e
      cases z with
      | unset => cases e
      | val d' =>
        cases e
        obtain ⟨v', hv', r⟩ := R.slot _ _ q
        have hv : σ[i]? = some (some v) := k
        rw [hv'] at hv; cases hv
        exact ⟨ι1, r, fun P _ => P⟩
      | own n =>
        cases e
        obtain ⟨a, ha⟩ := R.own _ _ q
        have hv : σ[i]? = some (some v) := k
        rw [ha] at hv; cases hv
        have kp : Keeps ι1 H1 (ι1 ++ [a]) H1 := ⟨⟨[a], rfl⟩, fun _ _ e => e, fun _ _ _ e => e⟩
        have hi : i < s1.sl.length := (List.getElem?_eq_some_iff.mp q).1
        have at_ : ∀ {y b n2}, At (ι1 ++ [a]) { sl := s1.sl.set i (.val (.ref s1.hp.length)), hp := s1.hp ++ [n] } σ y b n2 → (y = .inr s1.hp.length ∧ b = a ∧ n2 = n) ∨ (y ≠ .inl i ∧ At ι1 s1 σ y b n2) := fun {y b n2} hy => by
          cases hy with
          | cell h1 h2 =>
            rename_i j
            have h1 : (s1.hp ++ [n])[j]? = some n2 := h1
            by_cases ej : j < s1.hp.length
            · rw [List.getElem?_append_left ej] at h1
              rw [List.getElem?_append_left (by rw [R.hlen]; exact ej)] at h2
              exact .inr ⟨(by intro z; cases z), .cell h1 h2⟩
            · have : j = s1.hp.length := by
                have := (List.getElem?_eq_some_iff.mp h1).1
                simp at this; omega
              subst this
              simp at h1
              rw [← R.hlen] at h2
              simp at h2
              exact .inl ⟨rfl, h2.symm, h1.symm⟩
          | slot h1 h2 =>
            rename_i j
            have h1 : (s1.sl.set i (.val (.ref s1.hp.length)))[j]? = some (.own n2) := h1
            by_cases ej : i = j
            · subst ej
              rw [List.getElem?_set_self hi] at h1; cases h1
            · rw [List.getElem?_set_ne ej] at h1
              exact .inr ⟨fun z => ej (Sum.inl.inj z).symm, .slot h1 h2⟩
        have old : At ι1 s1 σ (.inl i) a n := .slot q ha
        have R2 : Rel K (ι1 ++ [a]) { sl := s1.sl.set i (.val (.ref s1.hp.length)), hp := s1.hp ++ [n] } σ H1 := by
          refine ⟨by simp [R.hlen], by simp [R.slen], fun y b n2 hy => ?_, fun j d ej => ?_, fun j n2 ej => ?_, fun y z b n2 n3 hy hz m2 m3 => ?_⟩
          · rcases at_ hy with ⟨_, rfl, rfl⟩ | ⟨_, hy⟩
            · exact (R.ok _ _ _ old).keep kp fun _ => rfl
            · exact (R.ok y b n2 hy).keep kp fun _ => rfl
          · by_cases eij : i = j
            · subst eij
              have ej : (s1.sl.set i (.val (.ref s1.hp.length)))[i]? = some (.val d) := ej
              rw [List.getElem?_set_self hi] at ej
              cases ej
              exact ⟨_, ha, .ref (by rw [← R.hlen]; simp)⟩
            · have ej : (s1.sl.set i (.val (.ref s1.hp.length)))[j]? = some (.val d) := ej
              rw [List.getElem?_set_ne eij] at ej
              obtain ⟨v, h1, h2⟩ := R.slot j d ej
              exact ⟨v, h1, h2.keep kp⟩
          · by_cases eij : i = j
            · subst eij; exact ⟨a, ha⟩
            · have ej : (s1.sl.set i (.val (.ref s1.hp.length)))[j]? = some (.own n2) := ej
              rw [List.getElem?_set_ne eij] at ej
              exact R.own j n2 ej
          · rcases at_ hy with ⟨rfl, rfl, rfl⟩ | ⟨ny, hy2⟩
            · rcases at_ hz with ⟨rfl, _, rfl⟩ | ⟨nz, hz2⟩
              · rfl
              · exact (nz (R.uniq _ _ _ _ _ hz2 old m3 m2)).elim
            · rcases at_ hz with ⟨rfl, rfl, rfl⟩ | ⟨nz, hz2⟩
              · exact (ny (R.uniq _ _ _ _ _ hy2 old m2 m3)).elim
              · exact R.uniq _ _ _ _ _ hy2 hz2 m2 m3
        refine ⟨ι1 ++ [a], .ref (by rw [← R.hlen]; simp), fun P _ => re P R2 ⟨n, rfl⟩ fun x b n2 hx m => .inl fun lb => ?_⟩
        rcases at_ hx with ⟨_, rfl, rfl⟩ | ⟨_, hx⟩
        · rw [lb _ _ old] at m; cases m
        · rw [lb _ _ hx] at m; cases m
/-- a node is changed -/
theorem setNode_ok (R : Rel K ι s σ H) {v : V} {o : Opd} {n n' : Node} {s2 : St} (k : OpdOk K H ι s σ v o) (e : nodeOf o s = some n) (m : n.mut = true) (m' : n'.mut = true) (e2 : setNode o n' s = .ok () s2) :
    ∃ a, v = .ref a ∧ NodeOk K H ι a n ∧ ∀ u : HO, (∀ xs, u ≠ .tup xs) → (Keeps ι H ι (upd H a u) → NodeOk K (upd H a u) ι a n') → Post K ι s σ H ι s2 (upd H a u) := by
  have go : ∀ {x : Hold} {a : Addr}, At ι s σ x a n → s2 = x.put n' s → v = .ref a → ∃ a, v = .ref a ∧ NodeOk K H ι a n ∧ ∀ u : HO, (∀ xs, u ≠ .tup xs) → (Keeps ι H ι (upd H a u) → NodeOk K (upd H a u) ι a n') → Post K ι s σ H ι s2 (upd H a u) := fun {x a} h es ev =>
    ⟨a, ev, R.ok _ _ _ h, fun u hu new => by rw [es]; exact R.put h m m' hu new⟩
  have cell : ∀ {l : Nat}, Rep K H ι v (.ref l) → s.hp[l]? = some n → s2 = { s with hp := s.hp.set l n' } → ∃ a, v = .ref a ∧ NodeOk K H ι a n ∧ ∀ u : HO, (∀ xs, u ≠ .tup xs) → (Keeps ι H ι (upd H a u) → NodeOk K (upd H a u) ι a n') → Post K ι s σ H ι s2 (upd H a u) := fun {l} h e es => by
    cases h with
    | ref h => exact go (x := .inr l) (.cell e h) es rfl
  cases o with
  | tmp x => cases e2
  | val d =>
    cases d with
    | ref l => cases e2; exact cell k e rfl
    | _ => cases e
  | own i =>
    simp only [nodeOf] at e
    simp only [setNode] at e2
    cases q : s.sl[i]? with
    | none => rw [q] at e; cases e
    | some z =>
      rw [q] at e e2
      cases z with
      | unset => cases e
      | own n2 =>
        cases e
        cases e2
        obtain ⟨a, ha⟩ := R.own _ _ q
        have hv : σ[i]? = some (some v) := k
        rw [ha] at hv; cases hv
        exact go (x := .inl i) (.slot q ha) rfl rfl
      | val d =>
        cases d with
        | ref l =>
          cases e2
          obtain ⟨v', hv', r⟩ := R.slot _ _ q
          have hv : σ[i]? = some (some v) := k
          rw [hv'] at hv; cases hv
          exact cell r e rfl
        | _ => cases e

/-! ### ends -/
variable {Q : VK}
theorem fin_val (P : Post K ι s σ H ι2 s2 H2) {v : V} {d : D} (r : Rep K H2 ι2 v d) (h : OutG K ι s σ H Ex (BQ K ι s σ H Q) (.ok (.val d) s2)) : Q v H2 := h ι2 v H2 P r trivial
theorem fin_tup (P : Post K ι s σ H ι2 s2 H2) {p : Addr} {vs : List V} {ds : List D} (n : H2 p = none) (r : Reps K H2 ι2 vs ds) (h : OutG K ι s σ H Ex (BQ K ι s σ H Q) (.ok (.val (.tup ds)) s2)) : Q (.ref p) (upd H2 p (.tup vs)) :=
  h ι2 _ _ (P.trans (Post.more P.rel (le_upd n))) (.tup (SqT.of upd_same) (r.keep (.of_le (le_upd n)))) trivial
theorem loose_new (R : Rel K ι s σ H) {p : Addr} (n : H p = none) : Loose ι s σ p := fun x nd hx => by
  cases m : nd.mut with
  | false => rfl
  | true =>
    obtain ⟨o, e, _⟩ := (R.ok x p nd hx).some m
    rw [n] at e; cases e
theorem fin_lst (P : Post K ι s σ H ι2 s2 H2) {p : Addr} {vs : List V} {ds : List D} (n : H2 p = none) (r : Reps K H2 ι2 vs ds) (h : OutG K ι s σ H Ex (BQ K ι s σ H Q) (.ok (.tmp (.lst ds)) s2)) : Q (.ref p) (upd H2 p (.lst vs)) :=
  h ι2 _ _ (P.trans (Post.more P.rel (le_upd n))) ⟨p, rfl, ⟨vs, upd_same, r.keep (.of_le (le_upd n))⟩, fun _ => loose_new P.rel n⟩ fun _ a e => by cases e; exact P.stp.none n
end

/-! ### data of flat values -/
mutual
def D.py : D → PyData
  | .non => .none
  | .bl b => .bool b
  | .int i => .int i
  | .str x => .str x
  | .tup ds => .tuple (D.pys ds)
  | .ref _ => .none
def D.pys : List D → List PyData
  | [] => []
  | d :: ds => D.py d :: D.pys ds
end
section
variable {K : Frag} {ι : List Addr} {H : Hp}
mutual
theorem Rep.dp : ∀ {v : V} {d : D} {n : Nat}, Rep K H ι v d → D.flat n d = true → Dp K H v (D.py d)
  | _, _, _, .non, _ => .non
  | _, _, _, .bl b, _ => .bl b
  | _, _, _, .int i, _ => .int i
  | _, _, _, .str x, _ => .str x
  | _, _, 0, .tup h hs, f => by simp [D.flat] at f
  | _, _, n + 1, .tup h hs, f => .tup h (Reps.dp (n := n) hs (by simpa [D.flat] using f))
  | _, _, _, .ref _, f => by simp [D.flat] at f
theorem Reps.dp : ∀ {vs : List V} {ds : List D} {n : Nat}, Reps K H ι vs ds → D.flats n ds = true → DpAll K H vs (D.pys ds)
  | _, _, _, .nil, _ => .nil
  | _, _, n, .cons h hs, f => by
    simp only [D.flats, Bool.and_eq_true] at f
    exact .cons (Rep.dp h f.1) (Reps.dp hs f.2)
end
end
mutual
theorem flat_lay : ∀ {d : D} {n : Nat}, D.flat n d = true → PyData.canLay0 (D.py d) = true ∧ (D.py d).depth ≤ n + 1
  | .non, _, _ => by simp [D.py, PyData.canLay0, PyData.depth]
  | .bl _, _, _ => by simp [D.py, PyData.canLay0, PyData.depth]
  | .int _, _, _ => by simp [D.py, PyData.canLay0, PyData.depth]
  | .str x, _, f => by
    refine ⟨?_, by simp [D.py, PyData.depth]⟩
    simp only [D.py, PyData.canLay0, PyData.strOk]
    simpa [D.flat] using f
  | .tup _, 0, f => by simp [D.flat] at f
  | .tup ds, n + 1, f => by
    have h := flats_lay (ds := ds) (n := n) (by simpa [D.flat] using f)
    refine ⟨by simpa [D.py, PyData.canLay0] using h.1, ?_⟩
    simp only [D.py, PyData.depth]
    omega
  | .ref _, _, f => by simp [D.flat] at f
theorem flats_lay : ∀ {ds : List D} {n : Nat}, D.flats n ds = true → PyData.canLayAll0 (D.pys ds) = true ∧ PyData.depthAll (D.pys ds) ≤ n + 1
  | [], _, _ => by simp [D.pys, PyData.canLayAll0, PyData.depthAll]
  | d :: ds, n, f => by
    simp only [D.flats, Bool.and_eq_true] at f
    have h1 := flat_lay f.1
    have h2 := flats_lay f.2
    refine ⟨by simp [D.pys, PyData.canLayAll0, h1.1, h2.1], ?_⟩
    simp only [D.pys, PyData.depthAll]
    omega
end
theorem flat_shaped {d : D} (f : D.flat 60 d = true) : SeqAt.shaped (D.py d) = true := by
  have h := flat_lay f
  show ((D.py d).canLay0 && decide ((D.py d).depth ≤ 64)) = true
  rw [h.1, Bool.true_and]
  exact decide_eq_true (by omega)
theorem flats_shaped {ds : List D} (f : D.flats 60 ds = true) : SeqAt.shaped (.list (D.pys ds)) = true := by
  have h := flats_lay f
  show (PyData.canLay0 (.list (D.pys ds)) && decide (PyData.depth (.list (D.pys ds)) ≤ 64)) = true
  rw [show PyData.canLay0 (.list (D.pys ds)) = true by simpa [PyData.canLay0] using h.1, Bool.true_and]
  refine decide_eq_true ?_
  simp only [PyData.depth]
  omega
mutual
theorem eqv_py : ∀ {a b : D} {n m : Nat}, D.flat n a = true → D.flat m b = true → PyData.eqv (D.py a) (D.py b) = D.eq a b
  | .non, b, _, _, _, g => by cases b <;> first | rfl | simp [D.flat] at g
  | .bl _, b, _, _, _, g => by cases b <;> first | rfl | simp [D.flat] at g
  | .int _, b, _, _, _, g => by cases b <;> first | rfl | simp [D.flat] at g
  | .str _, b, _, _, _, g => by cases b <;> first | rfl | simp [D.flat] at g
  | .tup _, _, 0, _, f, _ => by simp [D.flat] at f
  | .tup xs, b, n + 1, m, f, g => by
    cases b with
    | tup ys =>
      cases m with
      | zero => simp [D.flat] at g
      | succ m =>
        simp only [D.py, PyData.eqv, D.eq]
        exact eqvs_py (n := n) (m := m) (by simpa [D.flat] using f) (by simpa [D.flat] using g)
    | ref l => simp [D.flat] at g
    | _ => rfl
  | .ref _, _, _, _, f, _ => by simp [D.flat] at f
theorem eqvs_py : ∀ {a b : List D} {n m : Nat}, D.flats n a = true → D.flats m b = true → PyData.eqvAll (D.pys a) (D.pys b) = D.eqs a b
  | [], [], _, _, _, _ => rfl
  | [], _ :: _, _, _, _, _ => rfl
  | _ :: _, [], _, _, _, _ => rfl
  | x :: xs, y :: ys, n, m, f, g => by
    simp only [D.flats, Bool.and_eq_true] at f g
    simp only [D.pys, PyData.eqvAll, D.eqs]
    rw [eqv_py f.1 g.1, eqvs_py f.2 g.2]
end
theorem any_py {d : D} (f : D.flat 60 d = true) : ∀ {ds : List D}, D.flats 60 ds = true → ((D.pys ds).any fun z => PyData.eqv z (D.py d)) = D.anyEq d ds
  | [], _ => rfl
  | e :: es, g => by
    simp only [D.flats, Bool.and_eq_true] at g
    simp only [D.pys, List.any_cons, D.anyEq]
    rw [eqv_py g.1 f, any_py f g.2]
end Y

/-! Y30: tuple * 0, tuple * 1. -/
set_option linter.all false
set_option maxRecDepth 100000
set_option Elab.async false
set_option autoImplicit false
set_option maxHeartbeats 4000000
namespace Y
open PySem PySem.Spec L2 PyProof.Rows
open PySem.AutoSeq1 (wpAny_loadPart')
theorem times_one (l : Addr) (xs : Array Value) (n : Nat) (dd : Option Addr) (sl : Array (Option Value)) (u : Tok) :
    Meets (Builtin.«tuple.__mul__» ⟨[.ref l, .int 1 u], []⟩) (fun _ R s => s.heap.get? l = some { cls := .type "tuple", dict := dd, data := .seq xs n, slots := sl } ∧ R (.ok (.ret (Value.ref l))) s) :=
  .of_wp fun prog w A R s h => by
    obtain ⟨hp, g, d, tk, os⟩ := s
    obtain ⟨hl, h⟩ := h
    have f1 := AutoSeq1.idx_int
    wp_walk using wpAny_loadPart' hl
    repeat (first
      | (refine wpAny_ite_false (by decide) ?_; wp_walk using wpAny_loadPart' hl)
      | (refine wpAny_ite_true (by simp) ?_; wp_walk using wpAny_loadPart' hl))
    exact ⟨_, rfl, h⟩
theorem times_none (l : Addr) (xs : Array Value) (n : Nat) (dd : Option Addr) (sl : Array (Option Value)) (u : Tok) (ne : xs.isEmpty = false) :
    Meets (Builtin.«tuple.__mul__» ⟨[.ref l, .int 0 u], []⟩) (fun _ R s => s.heap.get? l = some { cls := .type "tuple", dict := dd, data := .seq xs n, slots := sl } ∧
      R (.ok (.ret (Value.ref s.heap.objs.size))) { s with heap := s.heap.push { cls := Value.type "tuple", data := Data.seq #[] }, toks := s.toks }) :=
  .of_wp fun prog w A R s h => by
    obtain ⟨hp, g, d, tk, os⟩ := s
    obtain ⟨hl, h⟩ := h
    have f1 := AutoSeq1.idx_int
    have c1 : (xs.isEmpty || (0 : Int) == 1) = false := by rw [ne]; rfl
    wp_walk using wpAny_loadPart' hl
    repeat (first
      | (refine wpAny_ite_false (decide_eq_false (by rw [c1]; exact Bool.false_ne_true)) ?_; wp_walk using wpAny_loadPart' hl)
      | (refine wpAny_ite_false (by decide) ?_; wp_walk using wpAny_loadPart' hl)
      | (refine wpAny_ite_true (by simp) ?_; wp_walk using wpAny_loadPart' hl))
    exact ⟨_, rfl, h⟩
section
variable {X : Cx}
/-- t * k, k at most 1 -/
def rFewT (K : Frag) : R2 := fun x y H Q => ∃ l k xs, x = .ref l ∧ y = .int k ∧ SqT K H l xs ∧ xs ≠ [] ∧ ((k = 1 ∧ Q (.ref l) H) ∨ (k = 0 ∧ ∀ p, H p = none → Q (.ref p) (upd H p (.tup []))))
theorem op_fewT : OpR X (binaryOp .Mult) (rFewT X.K) := by
  intro pins s σ H x y v u Q I rx ry h
  obtain ⟨l, k, xs, rfl, rfl, hT, hne, hk⟩ := h
  cases rx
  obtain ⟨t, rfl⟩ := ry
  obtain ⟨its, r, ⟨⟨kls, de, dat, sl⟩, ho, hc, n, hd⟩, hs⟩ := I.tuple hT
  simp only at hc hd
  subst hc hd
  have hi : its.toArray.isEmpty = false := by
    cases r with
    | nil => exact absurd rfl hne
    | cons _ _ => rfl
  rcases hk with ⟨rfl, q⟩ | ⟨rfl, q⟩
  · exact wpAny_binaryOp_repeat_ref (T := "tuple") (U := "int") (by decide) ⟨_, ho, rfl⟩ (fun s' => typeIs_int s' 1 t) noFill_tuple_mul F.fills_int_mul F.slot_int_rmul repeat_tuple F.slot_int_index.lookup
      (call_meets F.slot_int_rmul (typeIs_int s 1 t) F.entry_int_rmul (F.args_int_rmul_2 _ _) (int_rmul_tuple 1 t l its.toArray n de sl)
        ⟨ho, rfl, ⟨_, ho, rfl⟩, call_meets F.slot_tuple_mul ⟨_, ho, rfl⟩ F.entry_tuple_mul (F.args_tuple_mul_2 _ _) (times_one l its.toArray n de sl t) ⟨ho, ⟨.ref l, H, I, rfl, q⟩⟩⟩)
  · exact wpAny_binaryOp_repeat_ref (T := "tuple") (U := "int") (by decide) ⟨_, ho, rfl⟩ (fun s' => typeIs_int s' 0 t) noFill_tuple_mul F.fills_int_mul F.slot_int_rmul repeat_tuple F.slot_int_index.lookup
      (call_meets F.slot_int_rmul (typeIs_int s 0 t) F.entry_int_rmul (F.args_int_rmul_2 _ _) (int_rmul_tuple 0 t l its.toArray n de sl)
        ⟨ho, rfl, ⟨_, ho, rfl⟩, call_meets F.slot_tuple_mul ⟨_, ho, rfl⟩ F.entry_tuple_mul (F.args_tuple_mul_2 _ _) (times_none l its.toArray n de sl t hi)
          ⟨ho, ⟨.ref s.heap.objs.size, _, I.laid (t' := s.toks) (o := .tup []) (fun b ob e => Heap.get?_push_of_some _ e) (Nat.le_refl _) ⟨Nat.zero_le _, _, .nil, IsTup.new _ _⟩, rfl, q _ (I.hok.fresh (Nat.le_refl _))⟩⟩⟩)
end
end Y

/-! Y25: sorting data of any kind, empty tuples among them; sorted(set(..)). -/
set_option linter.all false
set_option maxRecDepth 100000
set_option Elab.async false
set_option autoImplicit false
set_option maxHeartbeats 1000000
namespace Y
open PySem PySem.W PySem.Calls PyProof.Rows PySem.SeqAt
/-- a tuple with an item -/
def ne0 : PyData → Bool
  | .tuple (_ :: _) => true
  | _ => false
section
variable {M : Model} {A : Around} {E : Value → Shared → Prop} {s : Shared}
theorem firsts_map : ∀ {vs : List Value} {ds : List PyData}, EachIs (fun v d => ∃ as, Reads s.heap v d as) vs ds → (∀ d ∈ ds, ∃ xs, d = .tuple xs) → ∀ {Q : List (Option Value) → Shared → Prop}, (∀ fs : List (Option Value), fs.map (·.isSome) = ds.map ne0 → Q fs s) → wpAny M A (vs.mapM firstOfTuple') Q E s
  | _, _, .nil, _, _, h => by rw [List.mapM_nil]; exact wpAny_pure (h [] rfl)
  | v :: vs, d :: ds, .cons ⟨as, r⟩ t, ht, Q, h => by
    obtain ⟨xs, rfl⟩ := ht d List.mem_cons_self
    rw [List.mapM_cons]
    refine wpAny_bind ?_
    cases r with
    | @tuple a o ys n _ _ ho hc hd hr =>
      rw [kas_first_eq]
      refine wpAny_bind (Looks.here (show Looks M s.heap (typeOf (.ref a)) o.cls from (Looks.ld ho).andThen .now) ?_)
      rw [hc, if_neg (by first | decide | simp)]
      refine wpAny_bind (listItems_at ho hd (wpAny_pure ?_))
      refine wpAny_bind (firsts_map t (fun d hd => ht d (List.mem_cons_of_mem _ hd)) fun fs hfs => wpAny_pure (h _ ?_))
      have e0 : (ys[0]?).isSome = ne0 (.tuple xs) := by
        rw [← Array.getElem?_toList]
        cases q : ys.toList with
        | nil => rw [q] at hr; cases hr; rfl
        | cons z zs => rw [q] at hr; cases hr; rfl
      rw [List.map_cons, List.map_cons, hfs, e0]
theorem kind_tupE {vs : List Value} {ds : List PyData} {Q : SortKind → Shared → Prop} (e : EachIs (fun v d => ∃ as, Reads s.heap v d as) vs ds) (ht : ∀ d ∈ ds, ∃ xs, d = .tuple xs) (hne : ∃ d ∈ ds, ne0 d = false)
    (h : Q (if (ds.head?.map ne0).getD false = true then general' else oneType') s) : wpAny M A (keyKind' vs.toArray) Q E s := by
  rw [keyKind'_eq, List.mapM_toArray, map_eq_pure_bind]
  refine wpAny_bind (wpAny_bind (firsts_map e ht fun fs hfs => wpAny_pure ?_))
  have hall : (fs.toArray.all fun x => x.isSome) = false := by
    rw [List.all_toArray]
    obtain ⟨d, hd, h0⟩ := hne
    have : false ∈ fs.map (·.isSome) := by rw [hfs, ← h0]; exact List.mem_map.mpr ⟨d, hd, rfl⟩
    obtain ⟨f, hf, hf0⟩ := List.mem_map.mp this
    rw [List.all_eq_false]
    exact ⟨f, hf, by rw [hf0]; decide⟩
  rw [if_neg (by rw [hall]; decide)]
  have h0 : ((fs.toArray[0]?).bind id).isSome = (ds.head?.map ne0).getD false := by
    cases fs with
    | nil =>
      have : ds = [] := by simpa using hfs.symm
      subst this
      rfl
    | cons f fs =>
      cases ds with
      | nil => simp at hfs
      | cons d ds =>
        simp only [List.map_cons, List.cons.injEq] at hfs
        simpa using hfs.1
  rw [h0]
  split
  · rename_i q
    rw [q, if_pos rfl] at h
    exact wpAny_pure h
  · rename_i q
    rw [if_neg q] at h
    rw [oneTypeOnly'_eq, List.mapM_toArray, map_eq_pure_bind]
    refine wpAny_bind (wpAny_bind (wpAny_bind (kas_mapM (r := Value.type "tuple") _ (fun v hv Q' hq => ?_) (wpAny_pure ?_))))
    · obtain ⟨d, hd, as, r⟩ := e.left v hv
      obtain ⟨xs, rfl⟩ := ht d hd
      exact (looks_reads (M := M) r).here hq
    · have hall2 : ((List.map (fun _ => Value.type "tuple") vs).toArray.all fun x => x == Value.type "tuple") = true := by
        simp only [List.all_toArray, List.all_map, List.all_eq_true]
        intro _ _
        rfl
      cases vs with
      | nil =>
        exfalso
        obtain ⟨d, hd, _⟩ := hne
        cases e
        cases hd
      | cons v vs =>
        have h1 : (List.map (fun _ => Value.type "tuple") (v :: vs)).toArray[0]? = some (Value.type "tuple") := by simp
        rw [h1]
        simp only [hall2, if_true]
        exact wpAny_pure (wpAny_pure h)
end
section
variable {prog : Program} {w : World} {A : Around} {E : Value → Shared → Prop} {s : Shared}
theorem call_tuple_lt {Q : Value → Shared → Prop} {l b : Addr} {itms jtems : Array Value} {e r : Nat → Bool} (hl : s.heap.IsTuple l itms) (hb : s.heap.IsTuple b jtems)
    (hee : ∀ j (g1 : j < itms.size) (g2 : j < jtems.size), EqAt A.in1 s itms[j] jtems[j] (e j)) (hrr : ∀ j (g1 : j < itms.size) (g2 : j < jtems.size), e j = false → RcLt A.in1 s itms[j] jtems[j] (r j))
    (h : Q (.bool (firstLt e r (decide (itms.size < jtems.size)) (List.range (min itms.size jtems.size)))) s) : wpAny (model prog w) A (call (.builtin "tuple.__lt__") [.ref l, .ref b]) Q E s := by
  obtain ⟨⟨kls, de, data, sl⟩, ho, hc, n, hd⟩ := id hl
  obtain ⟨⟨cls2, dd2, data2, sl2⟩, ho2, hc2, m2, hd2⟩ := id hb
  simp only at hc hd hc2 hd2
  subst hc hd hc2 hd2
  exact call_meets F.slot_tuple_lt ⟨_, ho, rfl⟩ F.entry_tuple_lt (F.args_tuple_lt_2 _ _) (PySem.SeqAt.tuple_ltAt l b itms jtems n m2 de dd2 sl sl2 e r) ⟨ho, ho2, hee, hrr, h⟩
/-- one tuple against another, by the type's own < -/
theorem oneLt_tup {xs ys : List PyData} {a b : Value} {as bs : List Addr} {Q : Bool → Shared → Prop} (ra : Reads s.heap a (.tuple xs) as) (rb : Reads s.heap b (.tuple ys) bs) (h : alike (.tuple xs) (.tuple ys) = true)
    (hroom : A.units + min (PyData.tuple xs).depth (PyData.tuple ys).depth < cLine) (hq : Q (dataLt (.tuple xs) (.tuple ys)) s) : wpAny (model prog w) A (oneLt' true a b) Q E s := by
  have hxy : alikeAll xs ys = true := by simpa [alike] using h
  cases ra with
  | @tuple l o vs n _ ds0 g1 g2 g3 g4 =>
    cases rb with
    | @tuple l' o' vs' n' _ cs q1 q2 q3 q4 =>
      have m1 : vs.size = xs.length := by simpa using ReadsAll.length _ _ _ g4
      have m2 : vs'.size = ys.length := by simpa using ReadsAll.length _ _ _ q4
      rw [dataLt_tuple, ← firstLt_toks xs ys hxy, ← m1, ← m2] at hq
      rw [oneLt'_eq]
      simp only [if_true]
      refine wpAny_bind (wpAny_cRoomFor (room_here hroom) ?_)
      refine wpAny_bind (wpAny_callSpecialIfBound?_slot (T := "tuple") ⟨_, g1, g2⟩ F.slot_tuple_lt (call_tuple_lt (e := pairEq xs ys) (r := fun j => dataLt (xs.getD j .none) (ys.getD j .none)) ⟨_, g1, g2, _, g3⟩ ⟨_, q1, q2, _, q3⟩ (fun j j1 j2 => ?_) (fun j j1 j2 hj => ?_) ?_))
      · have := eqAt_alikeAll xs ys A.in1 s vs.toList vs'.toList _ _ g4 q4 hxy (room_in hroom) j (by simpa using j1) (by simpa using j2)
        simpa using this
      · have := rcLt_alikeAll xs ys A.in1 s vs.toList vs'.toList _ _ g4 q4 hxy (room_in hroom) j (by simpa using j1) (by simpa using j2) hj
        simpa using this
      · exact wpAny_truthy_bool hq
/-- can be sorted -/
theorem sortsAt {vs : List Value} {ds : List PyData} (e : EachIs (fun v d => ∃ as, Reads s.heap v d as) vs ds) (hal : AllAlike ds) (hk : .none ∉ ds) (hu : ∀ d, d ∈ ds → A.units + d.depth < cLine) : SortsAt prog w A s (dataKind s.heap ds) vs := by
  by_cases ht : ∃ d ∈ ds, ∃ xs, d = .tuple xs
  · have hall : ∀ d ∈ ds, ∃ xs, d = .tuple xs := by
      obtain ⟨d0, h0, xs0, rfl⟩ := ht
      intro d hd
      have q := hal d hd _ h0
      cases d <;> simp [alike] at q
      exact ⟨_, rfl⟩
    by_cases hne : ∃ d ∈ ds, ne0 d = false
    · have room : ∀ {d d' : PyData}, d ∈ ds → A.units + min d.depth d'.depth < cLine := fun {d d'} hd => Nat.lt_of_le_of_lt (Nat.add_le_add_left (Nat.min_le_left _ _) _) (hu d hd)
      refine ⟨fun v hv => ?_, (if (ds.head?.map ne0).getD false = true then general' else oneType'), ?_, fun h2 E Q hq => kind_tupE e hall hne hq⟩
      · obtain ⟨d, hd, as, r⟩ := e.left v hv
        exact ⟨_, dataKind_some hal hd r⟩
      · intro E x y a b Q ha hb hq
        obtain ⟨d, as, hd, ra, rfl⟩ := dataKind_inv ha
        obtain ⟨d', as', hd', rb, rfl⟩ := dataKind_inv hb
        obtain ⟨xs, rfl⟩ := hall d hd
        obtain ⟨ys, rfl⟩ := hall d' hd'
        split
        · exact oneLt_alike (f := false) (fun z => by cases z) ra rb (hal _ hd _ hd') (by simp) (room hd) hq
        · rw [keyLt'_oneType]
          exact oneLt_tup ra rb (hal _ hd _ hd') (room hd) hq
    · refine SortsAt.data e hal (.inl fun d hd => ?_) hu
      obtain ⟨xs, rfl⟩ := hall d hd
      cases xs with
      | nil => exact (hne ⟨_, hd, rfl⟩).elim
      | cons x r => exact ⟨x, r, rfl⟩
  · refine SortsAt.data e hal (.inr fun d hd => ⟨fun z => hk (z ▸ hd), fun xs z => ht ⟨d, hd, xs, z⟩⟩) hu
end
end Y

/-! Y26: the order of data. -/
set_option linter.all false
set_option maxRecDepth 100000
set_option Elab.async false
set_option autoImplicit false
set_option maxHeartbeats 1000000
namespace Y
open PySem PySem.W PySem.SeqAt
mutual
theorem like_py : ∀ {a b : D}, D.like a b = true → alike (D.py a) (D.py b) = true
  | .bl _, b, h => by cases b <;> simp [D.like] at h; simp [D.py, alike]
  | .int _, b, h => by cases b <;> simp [D.like] at h; simp [D.py, alike]
  | .str _, b, h => by cases b <;> simp [D.like] at h; simp [D.py, alike]
  | .tup xs, b, h => by
    cases b <;> simp [D.like] at h
    simp only [D.py, alike]
    exact likeL_py h
  | .non, b, h => by cases b <;> simp [D.like] at h
  | .ref _, b, h => by cases b <;> simp [D.like] at h
theorem likeL_py : ∀ {xs ys : List D}, D.likeL xs ys = true → alikeAll (D.pys xs) (D.pys ys) = true
  | [], ys, _ => by cases ys <;> simp [D.pys, alikeAll]
  | x :: xs, [], _ => by simp [D.pys, alikeAll]
  | x :: xs, y :: ys, h => by
    simp only [D.likeL, Bool.and_eq_true] at h
    simp only [D.pys, alikeAll, Bool.and_eq_true]
    exact ⟨like_py h.1, likeL_py h.2⟩
end
mutual
theorem eq_of_like : ∀ {a b : D}, D.like a b = true → D.eq a b = true → a = b
  | .bl _, b, h, e => by cases b <;> simp [D.like] at h; simpa [D.eq] using e
  | .int _, b, h, e => by cases b <;> simp [D.like] at h; simpa [D.eq] using e
  | .str _, b, h, e => by cases b <;> simp [D.like] at h; simpa [D.eq] using e
  | .tup xs, b, h, e => by
    cases b <;> simp [D.like] at h
    simp only [D.eq] at e
    rw [eqs_of_like h e]
  | .non, b, h, _ => by cases b <;> simp [D.like] at h
  | .ref _, b, h, _ => by cases b <;> simp [D.like] at h
theorem eqs_of_like : ∀ {xs ys : List D}, D.likeL xs ys = true → D.eqs xs ys = true → xs = ys
  | [], [], _, _ => rfl
  | [], y :: ys, _, e => by simp [D.eqs] at e
  | x :: xs, [], _, e => by simp [D.eqs] at e
  | x :: xs, y :: ys, h, e => by
    simp only [D.likeL, Bool.and_eq_true] at h
    simp only [D.eqs, Bool.and_eq_true] at e
    rw [eq_of_like h.1 e.1, eqs_of_like h.2 e.2]
end
mutual
theorem lt_py : ∀ {a b : D} {n m : Nat}, D.like a b = true → D.flat n a = true → D.flat m b = true → dataLt (D.py a) (D.py b) = D.lt a b
  | .bl x, b, n, m, h, _, _ => by
    cases b with
    | bl y =>
      simp only [D.py, D.lt]
      rw [dataLt_bool]
      cases x <;> cases y <;> rfl
    | _ => simp [D.like] at h
  | .int _, b, n, m, h, _, _ => by cases b <;> simp [D.like] at h; simp only [D.py, D.lt]; rw [dataLt_int]
  | .str _, b, n, m, h, _, _ => by cases b <;> simp [D.like] at h; simp only [D.py, D.lt]; rw [dataLt_str]
  | .tup xs, b, n, m, h, f, g => by
    cases b <;> simp [D.like] at h
    rename_i ys
    simp only [D.py, D.lt]
    rw [dataLt_tuple]
    cases n with
    | zero => simp [D.flat] at f
    | succ n =>
      cases m with
      | zero => simp [D.flat] at g
      | succ m => exact ltL_py h (by simpa [D.flat] using f) (by simpa [D.flat] using g)
  | .non, b, _, _, h, _, _ => by cases b <;> simp [D.like] at h
  | .ref _, b, _, _, h, _, _ => by cases b <;> simp [D.like] at h
theorem ltL_py : ∀ {xs ys : List D} {n m : Nat}, D.likeL xs ys = true → D.flats n xs = true → D.flats m ys = true → PyProof.Rows.lexLt PyProof.Rows.itemOrd (keyToksAll (D.pys xs)) (keyToksAll (D.pys ys)) = D.ltL xs ys
  | [], [], _, _, _, _, _ => by simp only [D.pys, D.ltL]; exact PyProof.Rows.lex_irrefl _
  | [], y :: ys, _, _, _, _, _ => by
    simp only [D.pys, D.ltL]
    rw [toks_all_cons]
    simp only [keyToksAll]
    rw [PyProof.Rows.lex_diff (O := PyProof.Rows.itemOrd) (by simp)]
    rfl
  | x :: xs, [], _, _, _, _, _ => by
    simp only [D.pys, D.ltL]
    rw [toks_all_cons]
    simp only [keyToksAll]
    rw [PyProof.Rows.lex_diff (O := PyProof.Rows.itemOrd) (by simp)]
    rfl
  | x :: xs, y :: ys, n, m, h, f, g => by
    simp only [D.likeL, Bool.and_eq_true] at h
    simp only [D.flats, Bool.and_eq_true] at f g
    simp only [D.pys, D.ltL]
    have hp := like_py h.1
    have ev := eqv_py f.1 g.1
    by_cases e : D.eq x y = true
    · rw [if_pos e, dataLt_all_yes hp (by rw [ev]; exact e)]
      exact ltL_py h.2 f.2 g.2
    · rw [if_neg e, dataLt_all_no hp (by rw [ev]; simpa using e)]
      exact lt_py h.1 f.1 g.1
end
/-- what neither is below the other is the same -/
theorem like_anti {a b : D} {n m : Nat} (h : D.like a b = true) (f : D.flat n a = true) (g : D.flat m b = true) (h1 : dataLt (D.py a) (D.py b) = false) (h2 : dataLt (D.py b) (D.py a) = false) : a = b := by
  have e := PyProof.Rows.lex_total (O := PyProof.Rows.itemOrd) _ _ h1 h2
  refine eq_of_like h ?_
  rw [← eqv_py f g]
  cases q : PyData.eqv (D.py a) (D.py b) with
  | true => rfl
  | false =>
    have := (toks_eqv _ _ (like_py h)).2 q [] [.inl 0]
    rw [e, List.append_nil, PyProof.Rows.lex_irrefl] at this
    have h3 := lex_pre (keyToks (D.py b)) [] [.inl 0]
    rw [List.append_nil, this] at h3
    exact absurd h3 (by decide)
theorem ins_perm (x : D) : ∀ l : List D, (D.ins x l).Perm (x :: l)
  | [] => .refl _
  | y :: ys => by
    unfold D.ins
    split
    · exact ((ins_perm x ys).cons y).trans (.swap x y ys)
    · exact .refl _
theorem srt_perm : ∀ l : List D, (D.srt l).Perm l
  | [] => .refl _
  | x :: xs => (ins_perm x _).trans ((srt_perm xs).cons x)
/-- two sorted rearrangements are the same -/
theorem srt_uniq {α : Type} {R : α → α → Prop} : ∀ {l m : List α}, l.Perm m → l.Pairwise R → m.Pairwise R → (∀ a ∈ l, ∀ b ∈ l, R a b → R b a → a = b) → l = m
  | [], m, p, _, _, _ => by rw [List.nil_perm.mp p]
  | a :: l, [], p, _, _, _ => by exact absurd p.length_eq (by simp)
  | a :: l, b :: m, p, h1, h2, anti => by
    obtain ⟨a1, a2⟩ := List.pairwise_cons.mp h1
    obtain ⟨b1, b2⟩ := List.pairwise_cons.mp h2
    have e : a = b := by
      rcases List.mem_cons.mp (p.mem_iff.mp (List.mem_cons_self (a := a) (l := l))) with e | ha
      · exact e
      · rcases List.mem_cons.mp (p.mem_iff.mpr (List.mem_cons_self (a := b) (l := m))) with e | hb
        · exact e.symm
        · exact anti a List.mem_cons_self b (List.mem_cons_of_mem _ hb) (a1 b hb) (b1 a ha)
    subst e
    rw [srt_uniq (p.cons_inv) a2 b2 fun x hx y hy => anti x (List.mem_cons_of_mem _ hx) y (List.mem_cons_of_mem _ hy)]
/-- fit to be sorted -/
structure Fit (ds : List D) : Prop where
  flat : ∀ d ∈ ds, ∃ n, D.flat n d = true
  like : ∀ x ∈ ds, ∀ y ∈ ds, D.like x y = true
abbrev dle : D → D → Bool := dataLe false D.py
theorem dle_eq (a b : D) : dle a b = !dataLt (D.py b) (D.py a) := by
  show dataLe false D.py a b = _
  rw [dataLe_eq]
  rfl
theorem ins_srtd {ds : List D} (F : Fit ds) (x : D) (hx : x ∈ ds) : ∀ l : List D, (∀ y ∈ l, y ∈ ds) → l.Pairwise (fun a b => dle a b = true) → (D.ins x l).Pairwise (fun a b => dle a b = true)
  | [], _, _ => by simp [D.ins]
  | y :: ys, hl, h => by
    obtain ⟨h1, h2⟩ := List.pairwise_cons.mp h
    have hy := hl y List.mem_cons_self
    obtain ⟨n, fx⟩ := F.flat x hx
    obtain ⟨m, fy⟩ := F.flat y hy
    have e := lt_py (F.like y hy x hx) fy fx
    have tot := PySem.W.sortLe_total (PyProof.Rows.listOrd PyProof.Rows.itemOrd) false fun d => keyToks (D.py d)
    unfold D.ins
    split
    · rename_i hlt
      refine List.pairwise_cons.mpr ⟨fun z hz => ?_, ins_srtd F x hx ys (fun z hz => hl z (List.mem_cons_of_mem _ hz)) h2⟩
      rcases List.mem_cons.mp ((ins_perm x ys).mem_iff.mp hz) with rfl | hz
      · have := tot.total y z
        rcases this with q | q
        · exact q
        · have q' := (dle_eq z y).symm.trans q
          rw [e, hlt] at q'
          cases q'
      · exact h1 z hz
    · rename_i hlt
      have hxy : dle x y = true := by
        rw [dle_eq, e]
        simpa using hlt
      refine List.pairwise_cons.mpr ⟨fun z hz => ?_, h⟩
      rcases List.mem_cons.mp hz with rfl | hz
      · exact hxy
      · exact tot.trans x y z hxy (h1 z hz)
theorem srt_srtd {ds : List D} (F : Fit ds) : ∀ l : List D, (∀ y ∈ l, y ∈ ds) → (D.srt l).Pairwise (fun a b => dle a b = true)
  | [], _ => by simp [D.srt]
  | x :: xs, h => ins_srtd F x (h x List.mem_cons_self) _ (fun y hy => h y (List.mem_cons_of_mem _ ((srt_perm xs).mem_iff.mp hy))) (srt_srtd F xs fun y hy => h y (List.mem_cons_of_mem _ hy))
theorem fit_anti {ds : List D} (F : Fit ds) : ∀ a ∈ ds, ∀ b ∈ ds, dle a b = true → dle b a = true → a = b := fun a ha b hb h1 h2 => by
  obtain ⟨n, fa⟩ := F.flat a ha
  obtain ⟨m, fb⟩ := F.flat b hb
  rw [dle_eq] at h1 h2
  exact like_anti (F.like a ha b hb) fa fb (by simpa using h2) (by simpa using h1)
theorem merge_srt {ds : List D} (F : Fit ds) : ds.mergeSort dle = D.srt ds := by
  have tot := PySem.W.sortLe_total (PyProof.Rows.listOrd PyProof.Rows.itemOrd) false fun d => keyToks (D.py d)
  have p := List.mergeSort_perm ds dle
  refine srt_uniq (p.trans (srt_perm ds).symm) (List.pairwise_mergeSort (le := dle) (fun a b c => tot.trans a b c) (fun a b => by rw [Bool.or_eq_true]; exact tot.total a b) ds) (srt_srtd F ds fun _ h => h) fun a ha b hb => fit_anti F a (p.mem_iff.mp ha) b (p.mem_iff.mp hb)
/-- another sequence of the same -/
theorem srt_of_perm {ds es : List D} (F : Fit ds) (p : es.Perm ds) : D.srt es = D.srt ds := by
  refine srt_uniq ((srt_perm es).trans (p.trans (srt_perm ds).symm)) (srt_srtd F es fun y hy => p.mem_iff.mp hy) (srt_srtd F ds fun _ h => h) fun a ha b hb => fit_anti F a (p.mem_iff.mp ((srt_perm es).mem_iff.mp ha)) b (p.mem_iff.mp ((srt_perm es).mem_iff.mp hb))
end Y

/-! Y27: sorted(xs), sorted(set(xs)). -/
set_option linter.all false
set_option maxRecDepth 100000
set_option Elab.async false
set_option autoImplicit false
set_option maxHeartbeats 1000000
namespace Y
open PySem PySem.W PySem.Calls PyProof.Rows PySem.SeqAt
section
variable {prog : Program} {w : World} {A : Around} {E : Value → Shared → Prop} {s : Shared}
/-- the items of a tuple, gathered -/
theorem gather_tup {t : Addr} {vs : List Value} {Q : List Value → Shared → Prop} (ht : s.heap.IsTuple t vs.toArray) (sz : vs.length ≤ sizeLine)
    (q : Q vs { s with heap := (s.heap.push (seqObj "list" #[] 0)).update s.heap.objs.size (Obj.mapSeq (· ++ vs.toArray)) }) : wpAny (model prog w) A (collect (.ref t)) Q E s := by
  obtain ⟨ob, eo, ec, k, ed⟩ := id ht
  have eo2 : (s.heap.push (seqObj "list" #[] 0)).get? t = some ob := Heap.get?_push_of_some _ eo
  have en : (s.heap.push (seqObj "list" #[] 0)).get? s.heap.objs.size = some (seqObj "list" #[] 0) := Heap.get?_push_size _ rfl
  unfold collect
  refine wpAny_bind (wpAny_runValue (codeAny_builtin entry_proto_collect' (show wpAny _ _ (do again (.builtin "list.__iadd__" ⟨[← newList [], .ref t], []⟩)) _ _ s from ?_)))
  refine wpAny_bind (wpAny_newList (wpAny_pure ⟨Code.quiet_builtin _ (by decide +kernel), codeAny_builtin entry_list_iadd' ?_⟩))
  show wpAny _ _ (Builtin.List.listExtendWith (.ref s.heap.objs.size) (.ref t) (.ref s.heap.objs.size)) _ _ { s with heap := s.heap.push (seqObj "list" #[] 0) }
  unfold Builtin.List.listExtendWith
  refine wpAny_bind (wpAny_typeOf (T := "tuple") ⟨ob, eo2, ec⟩ ?_)
  have htt : (Value.type "tuple" == Value.type "tuple") = true := by rfl
  rw [if_pos (by rw [htt]; simp)]
  refine wpAny_bind (listItems_at eo2 ed (wpAny_bind (listItems_at (xs := #[]) (n := 0) en rfl ?_)))
  rw [if_neg (by simp)]
  refine wpAny_bind (listUpdate_at (xs := #[]) (n := 0) en rfl (wpAny_pure ?_) (Nat.zero_le _) (by show (#[] ++ vs.toArray).size ≤ sizeLine + 1; simp only [Array.size_append, List.size_toArray, List.length_nil]; omega))
  show wpAny (model prog w) A (do
      let ob ← load s.heap.objs.size
      match ob.data with
      | .seq xs _ => pure xs.toList
      | _ => unsupported "internal:collect") Q E { s with heap := (s.heap.push (seqObj "list" #[] 0)).update s.heap.objs.size (Obj.mapSeq (· ++ vs.toArray)) }
  refine wpAny_bind (wpAny_load (get?_update_seq en _) ?_)
  show wpAny _ _ (pure ((#[] : Array Value) ++ vs.toArray).toList) Q E _
  rw [show ((#[] : Array Value) ++ vs.toArray).toList = vs by simp]
  exact wpAny_pure q
/-- sorted(t), t a tuple -/
theorem sorted_tupV {κ : PyProof.Rows.KeyKind} {t : Addr} {vs : List Value} {Q : Value → Shared → Prop} (ht : s.heap.IsTuple t vs.toArray) (S : SortsAt prog w A.in1.in1 { s with heap := sortingHeap (copyHeap s.heap vs) (s.heap.objs.size + 1) vs } κ vs) (sz : vs.length ≤ sizeLine)
    (q : Q (.ref (s.heap.objs.size + 1)) { s with heap := sortedAll s.heap vs (sortVals κ false vs vs).toArray }) : wpAny (model prog w) A (call (.builtin "sorted") [.ref t]) Q E s := by
  refine call_function_entry kind_sorted plain_sorted entry_sorted (args_sorted1 _) ?_
  unfold Builtin.«sorted»
  refine wpAny_bind (m := checkCount "sorted" 1 1 _) (wpAny_pure (wpAny_bind (gather_tup ht sz (wpAny_bind (wpAny_newList ?_ sz)))))
  have esz : ((s.heap.push (seqObj "list" #[] 0)).update s.heap.objs.size (Obj.mapSeq (· ++ vs.toArray))).objs.size = s.heap.objs.size + 1 := by rw [Heap.size_update, size_push']
  show wpAny _ _ _ _ _ { s with heap := copyHeap s.heap vs }
  rw [esz]
  refine wpAny_bind (wpAny_holding (wpAny_call_entry slot_list_sort ⟨_, copyHeap_at s.heap vs, rfl⟩ entry_list_sort (list_sort_vals (s := { s with heap := copyHeap s.heap vs }) (copyHeap_at s.heap vs) S sz ⟨_, rfl, wpAny_pure ⟨_, rfl, q⟩⟩) (args_list_sort _)))
/-- the values, sorted: what they stand for -/
theorem sorted_any {β : Type} {R : Value → β → Prop} {enc : β → PyData} {a : Addr} {vs : List Value} {bs : List β} {Q : Value → Shared → Prop} (ha : s.heap.IsList a vs.toArray ∨ s.heap.IsTuple a vs.toArray) (e : EachIs R vs bs)
    (er : EachIs (fun v b => ∃ as, Reads s.heap v (enc b) as) vs bs) (hal : AllAlike (bs.map enc)) (hk : .none ∉ bs.map enc) (sz : bs.length ≤ sizeLine) (hu : ∀ b, b ∈ bs → A.units + 2 + (enc b).depth < cLine)
    (q : ∀ out, out.length = bs.length → EachIs R out (bs.mergeSort (dataLe false enc)) → Q (.ref (s.heap.objs.size + 1)) { s with heap := sortedAll s.heap vs (List.toArray out) }) : wpAny (model prog w) A (call (.builtin "sorted") [.ref a]) Q E s := by
  have er2 : EachIs (fun v b => ∃ as, Reads (sortingHeap (copyHeap s.heap vs) (s.heap.objs.size + 1) vs) v (enc b) as) vs bs := er.mono fun _ _ ⟨as, r⟩ => ⟨as, PyProof.Rows.Reads.keeps (fun _ _ => sorting_copy_old) r⟩
  have S := sortsAt (prog := prog) (w := w) (A := A.in1.in1) (s := { s with heap := sortingHeap (copyHeap s.heap vs) (s.heap.objs.size + 1) vs }) (each_map (R := fun v d => ∃ as, Reads (sortingHeap (copyHeap s.heap vs) (s.heap.objs.size + 1) vs) v d as) enc er2) hal hk (bound_map hu)
  have sz2 : vs.length ≤ sizeLine := by rw [e.length]; exact sz
  have fin := q _ (by rw [sortVals_length false rfl]; exact e.length) (sortVals_data false e er2 hal)
  rcases ha with ha | ha
  · exact sorted_vals ha S sz2 fin
  · exact sorted_tupV ha S sz2 fin
end
end Y

/-! Y28: sorted of an operand. -/
set_option linter.all false
set_option maxRecDepth 100000
set_option Elab.async false
set_option autoImplicit false
set_option maxHeartbeats 1000000
namespace Y
open PySem PySem.Spec L2
theorem flats_mem {n : Nat} : ∀ {ds : List D}, D.flats n ds = true → ∀ d ∈ ds, D.flat n d = true
  | [], _, d, h => by cases h
  | e :: ds, f, d, h => by
    simp only [D.flats, Bool.and_eq_true] at f
    rcases List.mem_cons.mp h with rfl | h
    · exact f.1
    · exact flats_mem f.2 d h
theorem likes_mem {ds : List D} (h : D.likes ds = true) : ∀ x ∈ ds, ∀ y ∈ ds, D.like x y = true := by
  unfold D.likes at h
  rw [List.all_eq_true] at h
  intro x hx y hy
  exact List.all_eq_true.mp (h x hx) y hy
theorem fit_of {n : Nat} {ds : List D} (f : D.flats n ds = true) (l : D.likes ds = true) : Fit ds := ⟨fun d hd => ⟨n, flats_mem f d hd⟩, likes_mem l⟩
section
variable {K : Frag} {H : Hp} {ι : List Addr}
/-- a value of the machine stands for it -/
def Stands (K : Frag) (H : Hp) (ι : List Addr) (u : Value) (d : D) : Prop := ∃ v, RelV v u ∧ Rep K H ι v d
theorem stands_of : ∀ {vs : List V} {us : List Value} {ds : List D}, Vals vs us → Reps K H ι vs ds → PySem.W.EachIs (Stands K H ι) us ds
  | _, _, _, .nil, .nil => .nil
  | _, _, _, .cons r t, .cons k l => .cons ⟨_, r, k⟩ (stands_of t l)
theorem of_stands : ∀ {us : List Value} {ds : List D}, PySem.W.EachIs (Stands K H ι) us ds → ∃ vs, Vals vs us ∧ Reps K H ι vs ds
  | _, _, .nil => ⟨[], .nil, .nil⟩
  | _, _, .cons ⟨v, r, k⟩ t => by
    obtain ⟨vs, h1, h2⟩ := of_stands t
    exact ⟨v :: vs, .cons r h1, .cons k h2⟩
theorem each_and {α β : Type} {R S : α → β → Prop} : ∀ {l : List α} {m : List β}, PySem.W.EachIs R l m → (∀ a b, b ∈ m → R a b → S a b) → PySem.W.EachIs S l m
  | _, _, .nil, _ => .nil
  | _, _, .cons h t, g => .cons (g _ _ List.mem_cons_self h) (each_and t fun a b hb => g a b (List.mem_cons_of_mem _ hb))
end
section
variable {X : Cx} {pins : List (Addr × Obj)} {sh : Shared} {σ' : L2.St} {H : Hp} {ι : List Addr} {a : Addr} {vs : List V} {ds : List D} {Q : VK}
theorem sorted_seq (hu : X.A.units + 65 < cLine) (I : Inv X pins σ' H sh) (hq : SqL X.K H a vs ∨ SqT X.K H a vs) (r : Reps X.K H ι vs ds) (f : D.flats 60 ds = true) (lk : D.likes ds = true)
    (q : ∀ p ws, H p = none → Reps X.K H ι ws (D.srt ds) → Q (.ref p) (upd H p (.lst ws))) : wpAny (model X.prog X.w) X.A (call (.builtin "sorted") [.ref a]) (EP X pins σ' Q) X.xe sh := by
  obtain ⟨its, rv, ha, hz⟩ : ∃ its : List Value, Vals vs its ∧ (sh.heap.IsList a its.toArray ∨ sh.heap.IsTuple a its.toArray) ∧ vs.length ≤ sizeLine := by
    rcases hq with hq | hq
    · obtain ⟨its, rv, pl, hz⟩ := I.list hq
      exact ⟨its, rv, .inl pl.isList, hz⟩
    · obtain ⟨its, rv, pl, hz⟩ := I.tuple hq
      exact ⟨its, rv, .inr pl, hz⟩
  have e := stands_of rv r
  have al : PySem.W.AllAlike (ds.map D.py) := by
    intro d hd d' hd'
    obtain ⟨b, hb, rfl⟩ := List.mem_map.mp hd
    obtain ⟨b', hb', rfl⟩ := List.mem_map.mp hd'
    exact like_py (likes_mem lk b hb b' hb')
  have nn : PyData.none ∉ ds.map D.py := fun hd => by
    obtain ⟨b, hb, e⟩ := List.mem_map.mp hd
    have := likes_mem lk b hb b hb
    cases b <;> simp [D.py, D.like] at e this
  refine sorted_any ha e (enc := D.py) (each_and e fun u d hd ⟨v, rv, k⟩ => Dp.reads I (D.py d) v u (k.dp (flats_mem f d hd)) rv) al nn (by rw [← r.length]; exact hz) (fun b hb => ?_) fun out hl eo => ?_
  · have := (flat_lay (flats_mem f b hb)).2
    omega
  · rw [merge_srt (fit_of f lk)] at eo
    obtain ⟨ws, wv, wr⟩ := of_stands eo
    obtain ⟨ep, he⟩ := PyProof.Rows.sortedAll_at sh.heap its (List.toArray out)
    have hlen : ws.length ≤ sizeLine := by
      rw [wr.length, (srt_perm ds).length_eq, ← r.length]; exact hz
    exact ⟨.ref _, upd H (sh.heap.objs.size + 1) (.lst ws), I.laid (t' := sh.toks) (fun _ _ => PyProof.Rows.sortedAll_old) (Nat.le_succ _) ⟨hlen, out, ep, wv, he⟩, rfl, q _ _ (I.hok.fresh (Nat.le_succ _)) wr⟩
end
end Y

/-! Y4: the operations, by values. -/
set_option linter.all false
set_option maxRecDepth 100000
set_option Elab.async false
set_option autoImplicit false
set_option maxHeartbeats 1000000
namespace Y
open PySem PySem.Spec L2
theorem lim_line : lim = sizeLine := by rw [sizeLine_eq]; rfl
/-- two operands are met -/
def rO (K : Frag) (Ex : ExP) (f : Opd → Opd → M Opd) : R2 := fun x y H2 Q => ∃ ι s σ H ι2 s2 o1 o2, Post K ι s σ H ι2 s2 H2 ∧ OpdOk K H2 ι2 s2 σ x o1 ∧ OpdOk K H2 ι2 s2 σ y o2 ∧
  OutG K ι s σ H Ex (BQ K ι s σ H Q) (f o1 o2 s2)
def opOf : Op2 → Operator
  | .add => .Add | .sub => .Sub | .mul => .Mult | .fdiv => .FloorDiv | .mod => .Mod | .pow => .Pow | .shl => .LShift | .shr => .RShift | .band => .BitAnd
section
variable {X : Cx} {Ex : ExP}
theorem node_lst {K : Frag} {ι : List Addr} {s : St} {σ : L2.St} {H : Hp} (R : Rel K ι s σ H) {v : V} {o : Opd} {ds : List D} (k : OpdOk K H ι s σ v o) (e : nodeOf o s = some (.lst ds)) : ∃ a vs, v = .ref a ∧ H a = some (.lst vs) ∧ Reps K H ι vs ds := by
  obtain ⟨a, rfl, ⟨vs, h, r⟩, _⟩ := node_ok R k e
  exact ⟨a, vs, rfl, h, r⟩
theorem op2_ok (o : Op2) : OpR X (binaryOp (opOf o)) (rO X.K Ex (op2 o)) := by
  intro pins sh σ' H2 x y v u Q I rx ry ⟨ι, s, σ, H, ι2, s2, o1, o2, P, k1, k2, h⟩
  unfold op2 at h
  split at h
  · cases (show Rep _ _ _ _ _ from k1); cases (show Rep _ _ _ _ _ from k2)
    exact op_add pins sh σ' H2 _ _ v u Q I rx ry ⟨_, _, rfl, rfl, fin_val P (.int _) h⟩
  · cases (show Rep _ _ _ _ _ from k1); cases (show Rep _ _ _ _ _ from k2)
    split at h
    · rename_i hl
      exact op_add_str pins sh σ' H2 _ _ v u Q I rx ry ⟨_, _, rfl, rfl, by rw [← lim_line]; exact hl, fin_val P (.str _) h⟩
    · exact h.elim
  · cases (show Rep _ _ _ _ _ from k1) with
    | tup h1 r1 =>
      cases (show Rep _ _ _ _ _ from k2) with
      | tup h2 r2 =>
        split at h
        · rename_i hl
          refine op_catA pins sh σ' H2 _ _ v u Q I rx ry ⟨_, _, _, _, rfl, rfl, h1, h2, by rw [← lim_line, r1.length, r2.length]; exact hl, fun e => ?_, fun e1 e2 => ?_, fun _ _ p hp => ?_⟩
          · subst e; cases r1
            exact fin_val P (.tup h2 r2) h
          · subst e2; cases r2
            exact fin_val P (.tup h1 (by rw [List.append_nil]; exact r1)) h
          · exact fin_tup P hp (r1.append r2) h
        · exact h.elim
  · split at h
    · rename_i a b e1 e2
      obtain ⟨l1, vs1, rfl, h1, r1⟩ := node_lst P.rel k1 e1
      obtain ⟨l2, vs2, rfl, h2, r2⟩ := node_lst P.rel k2 e2
      split at h
      · rename_i hl
        exact op_cat pins sh σ' H2 _ _ v u Q I rx ry ⟨_, _, _, _, rfl, rfl, h1, h2, by rw [← lim_line, r1.length, r2.length]; exact hl, fun p hp => fin_lst P hp (r1.append r2) h⟩
      · exact h.elim
    · exact h.elim
  · cases (show Rep _ _ _ _ _ from k1); cases (show Rep _ _ _ _ _ from k2)
    exact op_sub pins sh σ' H2 _ _ v u Q I rx ry ⟨_, _, rfl, rfl, fin_val P (.int _) h⟩
  · cases (show Rep _ _ _ _ _ from k1); cases (show Rep _ _ _ _ _ from k2)
    split at h
    · rename_i hl
      exact op_mulW pins sh σ' H2 _ _ v u Q I rx ry ⟨_, _, rfl, rfl, hl, fin_val P (.int _) h⟩
    · exact h.elim
  · cases (show Rep _ _ _ _ _ from k2)
    cases (show Rep _ _ _ _ _ from k1) with
    | tup h1 r1 =>
      split at h
      · rename_i hl
        rename_i a0 k0 _ _
        by_cases h2 : 2 ≤ k0
        · refine op_repT pins sh σ' H2 _ _ v u Q I rx ry ⟨_, _, _, rfl, rfl, h1, fun e => ?_, h2, hl.2.2.1, by rw [r1.length]; exact hl.2.2.2, fun p hp => fin_tup P hp (r1.rep _) h⟩
          subst e; cases r1; exact hl.1 rfl
        · refine op_fewT pins sh σ' H2 _ _ v u Q I rx ry ⟨_, _, _, rfl, rfl, h1, fun e => ?_, ?_⟩
          · subst e; cases r1; exact hl.1 rfl
          · have : k0 = 1 ∨ k0 = 0 := by omega
            rcases this with rfl | rfl
            · have e : (List.replicate (1 : Int).toNat a0).flatten = a0 := by simp
              rw [e] at h
              exact .inl ⟨rfl, fin_val P (.tup h1 r1) h⟩
            · exact .inr ⟨rfl, fun p hp => fin_tup P hp .nil h⟩
      · exact h.elim
  · cases (show Rep _ _ _ _ _ from k2)
    split at h
    · rename_i a e1
      obtain ⟨l1, vs1, rfl, h1, r1⟩ := node_lst P.rel k1 e1
      split at h
      · rename_i hl
        exact op_rep pins sh σ' H2 _ _ v u Q I rx ry ⟨_, _, _, rfl, rfl, h1, hl.1, hl.2.1, by rw [← lim_line, r1.length]; exact hl.2.2, fun p hp => fin_lst P hp (r1.rep _) h⟩
      · exact h.elim
    · exact h.elim
  · cases (show Rep _ _ _ _ _ from k1); cases (show Rep _ _ _ _ _ from k2)
    split at h
    · rename_i hl
      exact op_fdivW pins sh σ' H2 _ _ v u Q I rx ry ⟨_, _, rfl, rfl, hl, fin_val P (.int _) h⟩
    · exact h.elim
  · cases (show Rep _ _ _ _ _ from k1); cases (show Rep _ _ _ _ _ from k2)
    split at h
    · rename_i hl
      exact op_mod pins sh σ' H2 _ _ v u Q I rx ry ⟨_, _, rfl, rfl, hl, fin_val P (.int _) h⟩
    · exact h.elim
  · cases (show Rep _ _ _ _ _ from k1); cases (show Rep _ _ _ _ _ from k2)
    split at h
    · rename_i hl
      exact op_pow pins sh σ' H2 _ _ v u Q I rx ry ⟨_, _, rfl, rfl, hl, fin_val P (.int _) h⟩
    · exact h.elim
  · cases (show Rep _ _ _ _ _ from k1); cases (show Rep _ _ _ _ _ from k2)
    split at h
    · rename_i i j hl
      obtain ⟨h1, h2, rfl⟩ := hl
      exact op_oneShl pins sh σ' H2 _ _ v u Q I rx ry ⟨j.toNat, rfl, by rw [Int.toNat_of_nonneg h1], by omega, fin_val P (.int _) h⟩
    · exact h.elim
  · cases (show Rep _ _ _ _ _ from k1); cases (show Rep _ _ _ _ _ from k2)
    split at h
    · rename_i hl
      exact op_shr pins sh σ' H2 _ _ v u Q I rx ry ⟨_, _, rfl, rfl, hl, fin_val P (.int _) h⟩
    · exact h.elim
  · exact h.elim

/-! ### comparisons -/
def cmOf : Cm → CmpOp
  | .eq => .Eq | .ne => .NotEq | .lt => .Lt | .le => .LtE | .gt => .Gt | .ge => .GtE | .isN => .Is | .notN => .IsNot | .isIn => .In | .notIn => .NotIn
/-- == of two operands: data on both sides, or texts -/
theorem eqO_ok {K : Frag} {ι : List Addr} {s : St} {σ : L2.St} {H : Hp} (R : Rel K ι s σ H) {x y : V} {o1 o2 : Opd} {b : Bool} {s' : St} (k1 : OpdOk K H ι s σ x o1) (k2 : OpdOk K H ι s σ y o2) (e : eqO o1 o2 s = .ok b s') :
    s' = s ∧ ((∃ a c, x = .str a ∧ y = .str c ∧ b = (a == c)) ∨ ∃ d e, Dp K H x d ∧ Dp K H y e ∧ SeqAt.shaped d = true ∧ SeqAt.shaped e = true ∧ b = PyData.eqv d e) := by
  unfold eqO at e
  split at e
  · cases (show Rep _ _ _ _ _ from k1); cases (show Rep _ _ _ _ _ from k2)
    cases e
    exact ⟨rfl, .inl ⟨_, _, rfl, rfl, rfl⟩⟩
  · split at e
    · rename_i f
      cases e
      rw [Bool.and_eq_true] at f
      exact ⟨rfl, .inr ⟨_, _, Rep.dp k1 f.1, Rep.dp k2 f.2, flat_shaped f.1, flat_shaped f.2, (eqv_py f.1 f.2).symm⟩⟩
    · cases e
  · split at e
    · rename_i as bs e1 e2
      obtain ⟨l1, vs1, rfl, h1, r1⟩ := lst_ok R k1 e1
      obtain ⟨l2, vs2, rfl, h2, r2⟩ := lst_ok R k2 e2
      split at e
      · rename_i f
        cases e
        rw [Bool.and_eq_true] at f
        exact ⟨rfl, .inr ⟨_, _, .lst h1 (r1.dp f.1), .lst h2 (r2.dp f.2), flats_shaped f.1, flats_shaped f.2, by simp only [PyData.eqv]; exact (eqvs_py f.1 f.2).symm⟩⟩
      · cases e
    · cases e
theorem isNon_ok {K : Frag} {ι : List Addr} {s : St} {σ : L2.St} {H : Hp} (R : Rel K ι s σ H) {x : V} {o : Opd} {b : Bool} (k : OpdOk K H ι s σ x o) (e : isNon o s = some b) : decide (x = .non) = b := by
  have nd : (nodeOf o s).map (fun _ => false) = some b → decide (x = .non) = b := fun e => by
    cases q : nodeOf o s with
    | none => rw [q] at e; cases e
    | some n =>
      rw [q] at e
      obtain ⟨a, rfl, _⟩ := node_ok R k q
      cases e
      exact decide_eq_false (by intro z; cases z)
  cases o with
  | val d =>
    cases d with
    | non => cases e; cases (show Rep _ _ _ _ _ from k); rfl
    | ref l => cases e; cases (show Rep _ _ _ _ _ from k); exact decide_eq_false (by intro z; cases z)
    | _ => cases e; cases (show Rep _ _ _ _ _ from k); exact decide_eq_false (by intro z; cases z)
  | _ => exact nd e
theorem not_lt_le (a b : Int) : (!decide (b < a)) = decide (a ≤ b) := by
  by_cases h : a ≤ b
  · rw [decide_eq_true h, decide_eq_false (by omega)]; rfl
  · rw [decide_eq_false h, decide_eq_true (by omega)]; rfl
/-- the comparison of two operands: the state is as it was -/
theorem bl_ok {α : Type} {K : Frag} {ι : List Addr} {s : St} {σ : L2.St} {H : Hp} {Q : VK} {m : M Bool} {s2 : St} (h : OutG K ι s σ H Ex (BQ K ι s σ H Q) (bl m s2)) (ne : ∀ x s', m s2 ≠ .exc x s') :
    ∃ b s', m s2 = .ok b s' ∧ OutG K ι s σ H Ex (BQ K ι s σ H Q) (.ok (.val (.bl b)) s') := by
  unfold bl at h
  cases e : m s2 with
  | ok b s' => rw [e] at h; exact ⟨b, s', rfl, h⟩
  | exc x s' => exact (ne x s' e).elim
  | stuck => rw [e] at h; exact h.elim
theorem in_seqD (hu : X.A.units + 65 < cLine) {pins : List (Addr × Obj)} {sh : Shared} {σ' : L2.St} {H : Hp} {K : Frag} {ι : List Addr} {x : V} {a : Addr} {vs : List V} {v : Value} {d : D} {ds : List D} {Q : VK} (I : Inv X pins σ' H sh) (rx : RelV x v)
    (hx : Rep X.K H ι x d) (hs : SqL X.K H a vs ∨ SqT X.K H a vs) (r : Reps X.K H ι vs ds) (f : D.flat 60 d = true) (fs : D.flats 60 ds = true) :
    (Q (.bl (D.anyEq d ds)) H → wpAny (model X.prog X.w) X.A (compareOp .In v (.ref a)) (EP X pins σ' Q) X.xe sh) ∧
    (Q (.bl (!D.anyEq d ds)) H → wpAny (model X.prog X.w) X.A (compareOp .NotIn v (.ref a)) (EP X pins σ' Q) X.xe sh) := by
  obtain ⟨as, r1⟩ := Dp.reads I (D.py d) x v (hx.dp f) rx
  have cl : PyData.canLayAll0 (D.pys ds) = true := (flats_lay fs).1
  have cd := SeqAt.canLay_of_shaped (flat_shaped f)
  have rm := PyProof.Rows.room_in_shaped (xs := D.pys ds) (flat_shaped f) hu
  rcases hs with hs | hs
  · obtain ⟨bs, r2⟩ := Dp.reads I (.list (D.pys ds)) (.ref a) (.ref a) (.lst hs (r.dp fs)) rfl
    refine ⟨fun q => ?_, fun q => ?_⟩
    · rw [← any_py f fs] at q
      exact SeqAt.in_list_reads r2 r1 cl cd rm ⟨.bl _, H, I, rfl, q⟩
    · rw [← any_py f fs] at q
      exact SeqAt.notIn_list_reads r2 r1 cl cd rm ⟨.bl _, H, I, rfl, q⟩
  · obtain ⟨bs, r2⟩ := Dp.reads I (.tuple (D.pys ds)) (.ref a) (.ref a) (.tup hs (r.dp fs)) rfl
    refine ⟨fun q => ?_, fun q => ?_⟩
    · rw [← any_py f fs] at q
      exact SeqAt.in_tuple_reads r2 r1 cl cd rm ⟨.bl _, H, I, rfl, q⟩
    · rw [← any_py f fs] at q
      exact SeqAt.notIn_tuple_reads r2 r1 cl cd rm ⟨.bl _, H, I, rfl, q⟩
theorem inO_ok (hu : X.A.units + 65 < cLine) {pins : List (Addr × Obj)} {sh : Shared} {σ' σ : L2.St} {H : Hp} {ι : List Addr} {s s' : St} {x y : V} {v u : Value} {o1 o2 : Opd} {b : Bool} {Q : VK} (I : Inv X pins σ' H sh) (rx : RelV x v) (ry : RelV y u)
    (R : Rel X.K ι s σ H) (k1 : OpdOk X.K H ι s σ x o1) (k2 : OpdOk X.K H ι s σ y o2) (e : inO o1 o2 s = .ok b s') : s' = s ∧
    (Q (.bl b) H → wpAny (model X.prog X.w) X.A (compareOp .In v u) (EP X pins σ' Q) X.xe sh) ∧
    (Q (.bl (!b)) H → wpAny (model X.prog X.w) X.A (compareOp .NotIn v u) (EP X pins σ' Q) X.xe sh) := by
  unfold inO at e
  split at e
  · rename_i a c
    cases (show Rep _ _ _ _ _ from k1); cases (show Rep _ _ _ _ _ from k2)
    split at e
    · rename_i z ez
      cases e
      have ea : a = ⟨#[z]⟩ := by
        cases a with
        | mk cps => simp only at ez; congr 1; exact Array.ext' (by simpa using ez)
      subst ea
      exact ⟨rfl, fun q => op_in_sign pins sh σ' H _ _ v u Q I rx ry ⟨_, _, rfl, rfl, q⟩, fun q => op_notIn_sign pins sh σ' H _ _ v u Q I rx ry ⟨_, _, rfl, rfl, q⟩⟩
    · cases e
  · split at e
    · rename_i ds es
      split at e
      · rename_i f
        cases e
        rw [Bool.and_eq_true] at f
        obtain ⟨a, vs, rfl, hs, r⟩ := seq_ok R k2 es
        cases ry
        have := in_seqD (K := X.K) (Q := Q) hu I rx k1 hs r f.1 f.2
        exact ⟨rfl, this.1, this.2⟩
      · cases e
    · cases e
  · cases e
theorem inO_noexc {o1 o2 : Opd} {s : St} {x : Exn} {s' : St} : inO o1 o2 s ≠ .exc x s' := by
  unfold inO
  repeat' split
  all_goals (intro h; cases h)
theorem eqO_noexc {o1 o2 : Opd} {s : St} {x : Exn} {s' : St} : eqO o1 o2 s ≠ .exc x s' := by
  unfold eqO
  repeat' split
  all_goals (intro h; cases h)
theorem cmp_noexc {c : Cm} {o1 o2 : Opd} {s : St} {x : Exn} {s' : St} : cmp c o1 o2 s ≠ .exc x s' := by
  cases c with
  | eq => exact eqO_noexc
  | isIn => exact inO_noexc
  | ne =>
    simp only [cmp]
    cases e : eqO o1 o2 s with
    | ok b s' => intro h; cases h
    | exc y s2 => exact (eqO_noexc e).elim
    | stuck => intro h; cases h
  | notIn =>
    simp only [cmp]
    cases e : inO o1 o2 s with
    | ok b s' => intro h; cases h
    | exc y s2 => exact (inO_noexc e).elim
    | stuck => intro h; cases h
  | _ =>
    simp only [cmp]
    repeat' split
    all_goals (intro h; cases h)
theorem ltD_cases {a b : D} {r : Bool} (h : ltD a b = some r) : (∃ i j, a = .int i ∧ b = .int j ∧ r = decide (i < j)) ∨ (∃ x y : Str, a = .str x ∧ b = .str y ∧ r = decide (x.cps.toList < y.cps.toList)) ∨
    ∃ xs ys, a = .tup xs ∧ b = .tup ys ∧ D.flat 60 a = true ∧ D.flat 60 b = true ∧ D.like a b = true ∧ r = D.lt a b := by
  unfold ltD at h
  split at h
  · cases h; exact .inl ⟨_, _, rfl, rfl, rfl⟩
  · cases h; exact .inr (.inl ⟨_, _, rfl, rfl, rfl⟩)
  · split at h
    · rename_i f
      cases h
      simp only [Bool.and_eq_true] at f
      exact .inr (.inr ⟨_, _, rfl, rfl, f.1.1, f.1.2, by simp only [D.like]; exact f.2, by simp only [D.lt]⟩)
    · cases h
  · cases h
/-- a comparison of operands, by what it gives -/
theorem cmp_run (hu : X.A.units + 65 < cLine) (c : Cm) {pins : List (Addr × Obj)} {sh : Shared} {σ' σ : L2.St} {H : Hp} {ι : List Addr} {s s' : St} {x y : V} {v u : Value} {o1 o2 : Opd} {b : Bool} {Q : VK} (I : Inv X pins σ' H sh) (rx : RelV x v) (ry : RelV y u)
    (R : Rel X.K ι s σ H) (k1 : OpdOk X.K H ι s σ x o1) (k2 : OpdOk X.K H ι s σ y o2) (e : cmp c o1 o2 s = .ok b s') : s' = s ∧
    (Q (.bl b) H → wpAny (model X.prog X.w) X.A (compareOp (cmOf c) v u) (EP X pins σ' Q) X.xe sh) := by
  have eqc : ∀ b s', eqO o1 o2 s = .ok b s' → s' = s ∧ (Q (.bl b) H → wpAny (model X.prog X.w) X.A (compareOp .Eq v u) (EP X pins σ' Q) X.xe sh) ∧ (Q (.bl (!b)) H → wpAny (model X.prog X.w) X.A (compareOp .NotEq v u) (EP X pins σ' Q) X.xe sh) := fun b s' e => by
    obtain ⟨rfl, h⟩ := eqO_ok R k1 k2 e
    refine ⟨rfl, ?_⟩
    rcases h with ⟨a, c, rfl, rfl, rfl⟩ | ⟨d, e2, h1, h2, f1, f2, rfl⟩
    · refine ⟨fun q => op_eq pins sh σ' H _ _ v u Q I rx ry ⟨rfl, ?_⟩, fun q => op_ne pins sh σ' H _ _ v u Q I rx ry ⟨rfl, ?_⟩⟩
      · rw [dec_str]; exact q
      · rw [dec_str]; exact q
    · exact ⟨fun q => op_eqD (by omega) pins sh σ' H _ _ v u Q I rx ry ⟨_, _, h1, h2, f1, f2, q⟩, fun q => op_neD (by omega) pins sh σ' H _ _ v u Q I rx ry ⟨_, _, h1, h2, f1, f2, q⟩⟩
  cases c with
  | eq => exact ⟨(eqc b s' e).1, (eqc b s' e).2.1⟩
  | ne =>
    simp only [cmp] at e
    cases q : eqO o1 o2 s with
    | ok b2 s2 => rw [q] at e; cases e; exact ⟨(eqc b2 _ q).1, (eqc b2 _ q).2.2⟩
    | exc z s2 => rw [q] at e; cases e
    | stuck => rw [q] at e; cases e
  | isIn =>
    have := inO_ok (Q := Q) hu I rx ry R k1 k2 e
    exact ⟨this.1, this.2.1⟩
  | notIn =>
    simp only [cmp] at e
    cases q : inO o1 o2 s with
    | ok b2 s2 =>
      rw [q] at e; cases e
      have := inO_ok (Q := Q) hu I rx ry R k1 k2 q
      exact ⟨this.1, this.2.2⟩
    | exc z s2 => rw [q] at e; cases e
    | stuck => rw [q] at e; cases e
  | isN =>
    simp only [cmp] at e
    split at e
    · rename_i b2 e2
      cases e
      cases (show Rep _ _ _ _ _ from k2)
      refine ⟨rfl, fun q => op_isN pins sh σ' H _ _ v u Q I rx ry ⟨rfl, ?_⟩⟩
      rw [isNon_ok R k1 e2]; exact q
    · cases e
  | notN =>
    simp only [cmp] at e
    split at e
    · rename_i b2 e2
      cases e
      cases (show Rep _ _ _ _ _ from k2)
      refine ⟨rfl, fun q => op_notN pins sh σ' H _ _ v u Q I rx ry ⟨rfl, ?_⟩⟩
      rw [isNon_ok R k1 e2]; exact q
    · cases e
  | lt =>
    simp only [cmp] at e
    split at e
    · rename_i a c
      split at e
      · rename_i r er
        cases e
        rcases ltD_cases er with ⟨_, _, rfl, rfl, rfl⟩ | ⟨_, _, rfl, rfl, rfl⟩ | ⟨xs, ys, ex, ey, fa, fc, lk, rfl⟩
        · cases (show Rep _ _ _ _ _ from k1); cases (show Rep _ _ _ _ _ from k2)
          exact ⟨rfl, fun q => op_lt pins sh σ' H _ _ v u Q I rx ry ⟨_, _, rfl, rfl, q⟩⟩
        · cases (show Rep _ _ _ _ _ from k1); cases (show Rep _ _ _ _ _ from k2)
          exact ⟨rfl, fun q => op_lt_str pins sh σ' H _ _ v u Q I rx ry ⟨_, _, rfl, rfl, q⟩⟩
        · refine ⟨rfl, fun q => ?_⟩
          obtain ⟨as, r1⟩ := Dp.reads I (D.py a) x v (Rep.dp k1 fa) rx
          obtain ⟨bs, r2⟩ := Dp.reads I (D.py c) y u (Rep.dp k2 fc) ry
          have hd := (flat_lay fa).2
          rw [← lt_py lk fa fc] at q
          exact PySem.W.rcLt_alike (D.py a) (D.py c) X.A sh v u as bs r1 r2 (like_py lk) (by first | (rw [ex]; simp [D.py]; done) | (rw [ey]; simp [D.py]; done)) (by omega) X.prog X.w _ _ ⟨.bl _, H, I, rfl, q⟩
      · cases e
    · cases e
  | gt =>
    simp only [cmp] at e
    split at e
    · rename_i a c
      split at e
      · rename_i r er
        cases e
        rcases ltD_cases er with ⟨_, _, rfl, rfl, rfl⟩ | ⟨_, _, rfl, rfl, rfl⟩ | ⟨xs, ys, ex, ey, fc, fa, lk, rfl⟩
        · cases (show Rep _ _ _ _ _ from k1); cases (show Rep _ _ _ _ _ from k2)
          exact ⟨rfl, fun q => op_gt pins sh σ' H _ _ v u Q I rx ry ⟨_, _, rfl, rfl, q⟩⟩
        · cases (show Rep _ _ _ _ _ from k1); cases (show Rep _ _ _ _ _ from k2)
          exact ⟨rfl, fun q => op_gt_str pins sh σ' H _ _ v u Q I rx ry ⟨_, _, rfl, rfl, q⟩⟩
        · refine ⟨rfl, fun q => ?_⟩
          obtain ⟨as, r1⟩ := Dp.reads I (D.py a) x v (Rep.dp k1 fa) rx
          obtain ⟨bs, r2⟩ := Dp.reads I (D.py c) y u (Rep.dp k2 fc) ry
          have hd := (flat_lay fa).2
          rw [← lt_py lk fc fa] at q
          exact PySem.W.rcGt_alike (D.py a) (D.py c) X.A sh v u as bs r1 r2 ((PySem.W.alike_comm _ _).trans (like_py lk)) (by first | (rw [ex]; simp [D.py]; done) | (rw [ey]; simp [D.py]; done)) (by omega) X.prog X.w _ _ ⟨.bl _, H, I, rfl, q⟩
      · cases e
    · cases e
  | le =>
    simp only [cmp] at e
    split at e
    · rename_i a c
      split at e
      · rename_i r er
        cases e
        rcases ltD_cases er with ⟨_, _, rfl, rfl, rfl⟩ | ⟨_, _, rfl, rfl, rfl⟩ | ⟨xs, ys, ex, ey, fc, fa, lk, rfl⟩
        · cases (show Rep _ _ _ _ _ from k1); cases (show Rep _ _ _ _ _ from k2)
          exact ⟨rfl, fun q => op_le pins sh σ' H _ _ v u Q I rx ry ⟨_, _, rfl, rfl, by rw [not_lt_le] at q; exact q⟩⟩
        · cases (show Rep _ _ _ _ _ from k1); cases (show Rep _ _ _ _ _ from k2)
          exact ⟨rfl, fun q => op_le_str pins sh σ' H _ _ v u Q I rx ry ⟨_, _, rfl, rfl, q⟩⟩
        · refine ⟨rfl, fun q => ?_⟩
          obtain ⟨as, r1⟩ := Dp.reads I (D.py a) x v (Rep.dp k1 fa) rx
          obtain ⟨bs, r2⟩ := Dp.reads I (D.py c) y u (Rep.dp k2 fc) ry
          have hd := (flat_lay fa).2
          rw [← lt_py lk fc fa] at q
          exact PySem.W.rcLe_alike (D.py a) (D.py c) X.A sh v u as bs r1 r2 ((PySem.W.alike_comm _ _).trans (like_py lk)) (by first | (rw [ex]; simp [D.py]; done) | (rw [ey]; simp [D.py]; done)) (by omega) X.prog X.w _ _ ⟨.bl _, H, I, rfl, q⟩
      · cases e
    · cases e
  | ge =>
    simp only [cmp] at e
    split at e
    · rename_i a c
      split at e
      · rename_i r er
        cases e
        rcases ltD_cases er with ⟨_, _, rfl, rfl, rfl⟩ | ⟨_, _, rfl, rfl, rfl⟩ | ⟨xs, ys, ex, ey, fa, fc, lk, rfl⟩
        · cases (show Rep _ _ _ _ _ from k1); cases (show Rep _ _ _ _ _ from k2)
          exact ⟨rfl, fun q => op_ge pins sh σ' H _ _ v u Q I rx ry ⟨_, _, rfl, rfl, by rw [not_lt_le] at q; exact q⟩⟩
        · cases (show Rep _ _ _ _ _ from k1); cases (show Rep _ _ _ _ _ from k2)
          exact ⟨rfl, fun q => op_ge_str pins sh σ' H _ _ v u Q I rx ry ⟨_, _, rfl, rfl, q⟩⟩
        · refine ⟨rfl, fun q => ?_⟩
          obtain ⟨as, r1⟩ := Dp.reads I (D.py a) x v (Rep.dp k1 fa) rx
          obtain ⟨bs, r2⟩ := Dp.reads I (D.py c) y u (Rep.dp k2 fc) ry
          have hd := (flat_lay fa).2
          rw [← lt_py lk fa fc] at q
          exact PySem.W.rcGe_alike (D.py a) (D.py c) X.A sh v u as bs r1 r2 (like_py lk) (by first | (rw [ex]; simp [D.py]; done) | (rw [ey]; simp [D.py]; done)) (by omega) X.prog X.w _ _ ⟨.bl _, H, I, rfl, q⟩
      · cases e
    · cases e
theorem cmp_ok (hu : X.A.units + 65 < cLine) (c : Cm) : OpR X (compareOp (cmOf c)) (rO X.K Ex fun x y => bl (cmp c x y)) := by
  intro pins sh σ' H2 x y v u Q I rx ry ⟨ι, s, σ, H, ι2, s2, o1, o2, P, k1, k2, h⟩
  obtain ⟨b, s', e, h2⟩ := bl_ok (α := Unit) h fun _ _ => cmp_noexc
  obtain ⟨rfl, run⟩ := cmp_run (Q := Q) hu c I rx ry P.rel k1 k2 e
  exact run (fin_val P (.bl _) h2)
end
end Y

/-! Y5: truth, subscripts, built-in calls, methods, stores, by values. -/
set_option linter.all false
set_option maxRecDepth 100000
set_option Elab.async false
set_option autoImplicit false
set_option maxHeartbeats 1000000
namespace Y
open PySem PySem.Spec L2
section
variable {X : Cx} {Ex : ExP}
/-! ### truth -/
theorem truth_run {pins : List (Addr × Obj)} {sh : Shared} {σ' σ : L2.St} {H : Hp} {ι : List Addr} {s s' : St} {x : V} {v : Value} {o : Opd} {b : Bool} {Q : Bool → Hp → Prop} (I : Inv X pins σ' H sh) (rx : RelV x v)
    (R : Rel X.K ι s σ H) (k : OpdOk X.K H ι s σ x o) (e : truth o s = .ok b s') : s' = s ∧ (Q b H → wpAny (model X.prog X.w) X.A (truthy v) (TP X pins σ' Q) X.xe sh) := by
  have go : ∀ c, TruV X.K x H c → Q c H → wpAny (model X.prog X.w) X.A (truthy v) (TP X pins σ' Q) X.xe sh := fun c t q => tru_ok pins sh σ' H x v Q I rx ⟨c, t, q⟩
  unfold truth at e
  split at e
  · cases e; cases (show Rep _ _ _ _ _ from k); exact ⟨rfl, go _ (show false = false from rfl)⟩
  · cases e; cases (show Rep _ _ _ _ _ from k); exact ⟨rfl, go _ (show b = b from rfl)⟩
  · cases e; cases (show Rep _ _ _ _ _ from k); exact ⟨rfl, go _ rfl⟩
  · split at e
    · rename_i hl
      cases e; cases (show Rep _ _ _ _ _ from k)
      exact ⟨rfl, go _ ⟨by rw [← lim_line]; exact hl, rfl⟩⟩
    · cases e
  · cases e
    cases (show Rep _ _ _ _ _ from k) with
    | tup h r =>
      refine ⟨rfl, go _ (.inr (.inl ⟨_, h, ?_⟩))⟩
      cases r <;> rfl
  · have lst : ∀ {ds : List D}, lstOf o s = some ds → TruV X.K x H (!ds.isEmpty) := fun {ds} e => by
      obtain ⟨a, vs, rfl, h, r⟩ := lst_ok R k e
      refine .inl ⟨_, h, ?_⟩
      cases r <;> rfl
    split at e
    · rename_i e1
      cases e; exact ⟨rfl, go _ (lst (by unfold lstOf; rw [e1]))⟩
    · rename_i e1
      cases e; exact ⟨rfl, go _ (lst (by unfold lstOf; rw [e1]))⟩
    · cases e
theorem truth_noexc {o : Opd} {s : St} {x : Exn} {s' : St} : truth o s ≠ .exc x s' := by
  unfold truth
  repeat' split
  all_goals (intro h; cases h)

/-! ### subscripts -/
theorem sub_ok : IxR X (rO X.K Ex subO) := by
  intro value slice pins sh σ' H2 x y v u Q I rx ry ⟨ι, s, σ, H, ι2, s2, o1, o2, P, k1, k2, h⟩ hs
  unfold subO at h
  split at h
  · cases (show Rep _ _ _ _ _ from k1); cases (show Rep _ _ _ _ _ from k2)
    split at h
    · rename_i hl
      split at h
      · rename_i c ec
        exact ix_str value slice pins sh σ' H2 _ _ v u Q I rx ry ⟨_, _, _, rfl, rfl, by rw [← lim_line]; exact hl, ec, fin_val P (.str _) h⟩ hs
      · exact h.elim
    · exact h.elim
  · split at h
    · rename_i ds eds
      obtain ⟨a, vs, rfl, hq, r⟩ := seq_ok P.rel k1 eds
      split at h
      · cases (show Rep _ _ _ _ _ from k2)
        rename_i i _
        split at h
        · rename_i d ed
          have : ∃ w, L2.atI vs i = some w ∧ Rep X.K H2 ι2 w d := by
            unfold L2.atI
            cases ej : ixN ds.length i with
            | none => rw [ej] at ed; cases ed
            | some j =>
              rw [ej] at ed
              obtain ⟨w, hw, rw'⟩ := r.get (i := j) (d := d) ed
              refine ⟨w, ?_, rw'⟩
              rw [r.length]
              rw [show L2.ixN ds.length i = some j from ej]
              exact hw
          obtain ⟨w, hw, rw'⟩ := this
          rcases hq with hq | hq
          · exact ix_list value slice pins sh σ' H2 _ _ v u Q I rx ry ⟨_, _, _, _, rfl, rfl, hq, hw, fin_val P rw' h⟩ hs
          · exact ix_tup value slice pins sh σ' H2 _ _ v u Q I rx ry ⟨_, _, _, _, rfl, rfl, hq, hw, fin_val P rw' h⟩ hs
        · exact h.elim
      · exact h.elim
    · exact h.elim
  · exact h.elim
theorem sIx_eq (n d : Nat) (o : Option Int) : sIx n d o = HT.sIx n d o := by
  cases o <;> rfl
theorem Reps.cut {K : Frag} {H : Hp} {ι : List Addr} {vs : List V} {ds : List D} (r : Reps K H ι vs ds) (lo hi : Option Int) : Reps K H ι (cutV vs lo hi) (cut ds lo hi) := by
  unfold cutV Y.cut
  rw [← sIx_eq, ← sIx_eq, r.length]
  exact (r.drop _).take _
/-- a slice of an operand -/
def rCut (K : Frag) (Ex : ExP) : V → Option Int → Option Int → Hp → VK → Prop := fun x lo hi H2 Q => ∃ ι s σ H ι2 s2 o, Post K ι s σ H ι2 s2 H2 ∧ OpdOk K H2 ι2 s2 σ x o ∧ OutG K ι s σ H Ex (BQ K ι s σ H Q) (cutO o lo hi s2)
theorem cut_whole {α : Type} (xs : List α) (lo hi : Option Int) (h : HT.sIx xs.length 0 lo = 0 ∧ HT.sIx xs.length xs.length hi = xs.length) : cut xs lo hi = xs := by
  unfold cut
  rw [sIx_eq, sIx_eq, h.1, h.2]
  simp
theorem cut_ok : SlR X (rCut X.K Ex) := by
  intro pins sh σ' H2 x v vl vu lo hi sl Q I rx hs pl pu ⟨ι, s, σ, H, ι2, s2, o, P, k, h⟩
  unfold cutO at h
  split at h
  · cases (show Rep _ _ _ _ _ from k) with
    | tup hq r =>
      refine sl_tupA pins sh σ' H2 _ v vl vu lo hi sl Q I rx hs pl pu ⟨_, _, rfl, hq, fun hw => ?_, fun hw p hp => fin_tup P hp (r.cut lo hi) h⟩
      rw [r.length] at hw
      rw [cut_whole _ lo hi hw] at h
      exact fin_val P (.tup hq r) h
  · cases (show Rep _ _ _ _ _ from k)
    split at h
    · rename_i hl
      refine sl_str pins sh σ' H2 _ v vl vu lo hi sl Q I rx hs pl pu ⟨_, rfl, by rw [← lim_line]; exact hl, ?_⟩
      have e : ∀ z : Str, cutS z lo hi = ⟨(cut z.cps.toList lo hi).toArray⟩ := fun z => by
        have hz : z.cps.toList.length = z.length := by simp [Str.length]
        unfold cutS Y.cut
        rw [sIx_eq, sIx_eq, hz]
      rw [e]
      exact fin_val P (.str _) h
    · exact h.elim
  · split at h
    · rename_i ds eds
      obtain ⟨a, vs, rfl, hq, r⟩ := lst_ok P.rel k eds
      exact sl_list pins sh σ' H2 _ v vl vu lo hi sl Q I rx hs pl pu ⟨_, _, rfl, hq, fun p hp => fin_lst P hp (r.cut lo hi) h⟩
    · exact h.elim

/-! ### calls of built-ins -/
def OpdsOk (K : Frag) (H : Hp) (ι : List Addr) (s : St) (σ : L2.St) : List V → List Opd → Prop := Paired (OpdOk K H ι s σ)
def rB (K : Frag) (Ex : ExP) (b : BI) : List V → Hp → VK → Prop := fun vs H2 Q => ∃ ι s σ H ι2 s2 os, Post K ι s σ H ι2 s2 H2 ∧ OpdsOk K H2 ι2 s2 σ vs os ∧ OutG K ι s σ H Ex (BQ K ι s σ H Q) (bi b os s2)
def bnOf : BI → Value
  | .len => .builtin "len" | .abs => .builtin "abs" | .int => .type "int" | .str => .type "str" | .sum => .builtin "sum" | .all => .builtin "all" | .any => .builtin "any"
  | .max => .builtin "max" | .min => .builtin "min" | .tuple => .type "tuple" | .list => .type "list" | .sorted => .builtin "sorted"
theorem bi_ok (hc : X.calm = true) (hu : X.A.units + 65 < cLine) (b : BI) : CallR X (bnOf b) (rB X.K Ex b) := by
  intro pins sh σ' H2 vs us Q I rs ⟨ι, s, σ, H, ι2, s2, os, P, ks, h⟩
  unfold bi at h
  split at h
  · cases ks with
    | cons k kn =>
      cases kn
      cases (show Rep _ _ _ _ _ from k)
      split at h
      · rename_i hl
        exact call_len_str pins sh σ' H2 _ us Q I rs ⟨_, rfl, by rw [← lim_line]; exact hl, fin_val P (.int _) h⟩
      · exact h.elim
  · cases ks with
    | cons k kn =>
      cases kn
      split at h
      · rename_i ds eds
        obtain ⟨a, ws, rfl, hq, r⟩ := seq_ok P.rel k eds
        exact call_len_seq pins sh σ' H2 _ us Q I rs ⟨_, _, rfl, hq, by rw [r.length]; exact fin_val P (.int _) h⟩
      · exact h.elim
  · cases ks with
    | cons k kn =>
      cases kn
      cases (show Rep _ _ _ _ _ from k)
      exact call_abs pins sh σ' H2 _ us Q I rs ⟨_, rfl, fin_val P (.int _) h⟩
  · cases ks with
    | cons k kn =>
      cases kn
      cases (show Rep _ _ _ _ _ from k)
      exact call_int1 pins sh σ' H2 _ us Q I rs (.inl ⟨_, rfl, fin_val P (.int _) h⟩)
  · cases ks with
    | cons k kn =>
      cases kn
      cases (show Rep _ _ _ _ _ from k)
      exact call_int1 pins sh σ' H2 _ us Q I rs (.inr ⟨_, rfl, fin_val P (.int _) h⟩)
  · cases ks with
    | cons k kn =>
      cases kn
      split at h
      · rename_i bs ebs
        obtain ⟨ds, eds, eb⟩ := Option.bind_eq_some_iff.mp ebs
        obtain ⟨a, ws, rfl, hq, r⟩ := lst_ok P.rel k eds
        have e := r.bools eb
        subst e
        exact cr_all hc pins sh σ' H2 _ us Q I rs ⟨_, _, rfl, hq, fin_val P (.bl _) h⟩
      · exact h.elim
  · cases ks with
    | cons k kn =>
      cases kn
      split at h
      · rename_i bs ebs
        obtain ⟨ds, eds, eb⟩ := Option.bind_eq_some_iff.mp ebs
        obtain ⟨a, ws, rfl, hq, r⟩ := lst_ok P.rel k eds
        have e := r.bools eb
        subst e
        exact cr_any hc pins sh σ' H2 _ us Q I rs ⟨_, _, rfl, hq, fin_val P (.bl _) h⟩
      · exact h.elim
  · cases ks with
    | cons k kn =>
      cases kn
      split at h
      · rename_i bs ebs
        obtain ⟨ds, eds, eb⟩ := Option.bind_eq_some_iff.mp ebs
        obtain ⟨a, ws, rfl, hq, r⟩ := lst_ok P.rel k eds
        have e := r.ints eb
        subst e
        exact cr_sum hc pins sh σ' H2 _ us Q I rs ⟨_, _, rfl, hq, fin_val P (.int _) h⟩
      · exact h.elim
  · cases ks with
    | cons k kn =>
      cases kn
      cases (show Rep _ _ _ _ _ from k) with
      | tup hq r => exact call_tuple_of pins sh σ' H2 _ us Q I rs ⟨_, _, rfl, .inr ⟨hq, fin_val P (.tup hq r) h⟩⟩
  · cases ks with
    | cons k kn =>
      cases kn
      split at h
      · rename_i ds eds
        obtain ⟨a, ws, rfl, hq, r⟩ := lst_ok P.rel k eds
        exact call_tuple_of pins sh σ' H2 _ us Q I rs ⟨_, _, rfl, .inl ⟨hq, fun p hp => fin_tup P hp r h⟩⟩
      · exact h.elim
  · cases ks with
    | cons k kn =>
      cases kn
      split at h
      · rename_i ds eds
        obtain ⟨a, ws, rfl, hq, r⟩ := seq_ok P.rel k eds
        exact call_list_of pins sh σ' H2 _ us Q I rs ⟨_, _, rfl, hq, fun p hp => fin_lst P hp r h⟩
      · exact h.elim
  · cases ks with
    | cons k kn =>
      cases kn
      split at h
      · rename_i ds eds
        obtain ⟨a, ws, rfl, hq, r⟩ := seq_ok P.rel k eds
        split at h
        · rename_i hf
          rw [Bool.and_eq_true] at hf
          rw [Vals.ref1 rs]
          exact sorted_seq hu I hq r hf.1.1 hf.1.2 fun p us' hp r' => fin_lst P hp r' h
        · exact h.elim
      · exact h.elim
  · cases ks with
    | cons k kn =>
      cases kn with
      | cons k2 kn =>
        cases kn
        cases (show Rep _ _ _ _ _ from k)
        cases (show Rep _ _ _ _ _ from k2)
        exact call_max2 hc pins sh σ' H2 _ us Q I rs ⟨_, _, rfl, fin_val P (.int _) h⟩
  · cases ks with
    | cons k kn =>
      cases kn with
      | cons k2 kn =>
        cases kn
        cases (show Rep _ _ _ _ _ from k)
        cases (show Rep _ _ _ _ _ from k2)
        exact call_min2 hc pins sh σ' H2 _ us Q I rs ⟨_, _, rfl, fin_val P (.int _) h⟩
  · exact h.elim

/-! ### methods of built-in types -/
def rM (K : Frag) (Ex : ExP) (m : Me) : V → List V → Hp → VK → Prop := fun x vs H2 Q => ∃ ι s σ H ι2 s2 o ds, Post K ι s σ H ι2 s2 H2 ∧ OpdOk K H2 ι2 s2 σ x o ∧ Reps K H2 ι2 vs ds ∧ OutG K ι s σ H Ex (BQ K ι s σ H Q) (meth m o ds s2)
def meOf : Me → String
  | .append => "list.append" | .pop => "list.pop" | .extend => "list.extend" | .insert => "list.insert" | .index => "list.index" | .count => "list.count" | .reverse => "list.reverse"
  | .join => "str.join" | .split => "str.split" | .startswith => "str.startswith" | .replace => "str.replace" | .get => "dict.get"
theorem reps1 {K : Frag} {H : Hp} {ι : List Addr} {vs : List V} {d : D} (h : Reps K H ι vs [d]) : ∃ v, vs = [v] ∧ Rep K H ι v d := by
  cases h with
  | cons r t => cases t; exact ⟨_, rfl, r⟩
/-- .. of a list: what is left -/
theorem setLst {K : Frag} {ι : List Addr} {s : St} {σ : L2.St} {H : Hp} {v : V} {o : Opd} {xs ys : List D} (R : Rel K ι s σ H) (k : OpdOk K H ι s σ v o) (e : nodeOf o s = some (.lst xs)) {s2 : St} (e2 : setNode o (.lst ys) s = .ok () s2) :
    ∃ a vs, v = .ref a ∧ H a = some (.lst vs) ∧ Reps K H ι vs xs ∧ ∀ ws, Reps K H ι ws ys → Post K ι s σ H ι s2 (upd H a (.lst ws)) := by
  obtain ⟨a, rfl, ⟨vs, h, r⟩, put⟩ := setNode_ok R k e rfl (n' := .lst ys) rfl e2
  exact ⟨a, vs, rfl, h, r, fun ws rw' => put _ (fun _ => nofun) fun kp => ⟨ws, upd_same, rw'.keep kp⟩⟩
theorem setNode_noexc {o : Opd} {n : Node} {s : St} {x : Exn} {s' : St} : setNode o n s ≠ .exc x s' := by
  unfold setNode
  repeat' split
  all_goals (intro h; cases h)
theorem meth_ok (m : Me) : MtR X (meOf m) (rM X.K Ex m) := by
  intro pins sh σ' H2 x vs v us Q I rx rs ⟨ι, s, σ, H, ι2, s2, o, ds, P, k, r, h⟩
  unfold meth at h
  split at h
  · obtain ⟨w, rfl, rw'⟩ := reps1 r
    split at h
    · rename_i xs exs
      split at h
      · rename_i hl
        split at h
        · rename_i z s' es
          obtain ⟨a, ws, rfl, hq, rr, put⟩ := setLst P.rel k exs es
          exact mt_append pins sh σ' H2 _ _ v us Q I rx rs ⟨_, _, _, rfl, rfl, hq, by rw [← lim_line, rr.length]; exact hl, h ι2 _ _ (P.trans (put _ (rr.append (.cons rw' .nil)))) .non trivial⟩
        · rename_i es; exact (setNode_noexc es).elim
        · exact h.elim
      · exact h.elim
    · exact h.elim
  · cases r
    split at h
    · rename_i xs exs
      split at h
      · rename_i d ed
        split at h
        · rename_i z s' es
          obtain ⟨a, ws, rfl, hq, rr, put⟩ := setLst P.rel k exs es
          obtain ⟨w, hw, rw'⟩ := rr.get ed
          have P2 := put _ rr.dropLast
          exact mt_pop pins sh σ' H2 _ _ v us Q I rx rs ⟨_, _, w, rfl, rfl, hq, by rw [rr.length]; exact hw, h ι2 _ _ (P.trans P2) (rw'.keep (P2.stp.keeps P.rel)) trivial⟩
        · rename_i es; exact (setNode_noexc es).elim
        · exact h.elim
      · exact h.elim
    · exact h.elim
  · obtain ⟨w0, rfl, rw0⟩ := reps1 r
    cases rw0
    split at h
    · rename_i xs exs
      split at h
      · rename_i j ej
        split at h
        · rename_i d ed
          split at h
          · rename_i z s' es
            obtain ⟨a, ws, rfl, hq, rr, put⟩ := setLst P.rel k exs es
            obtain ⟨w, hw, rw'⟩ := rr.get ed
            have P2 := put _ (rr.eraseIdx j)
            obtain ⟨q1, q2, q3, q4⟩ := L2.ixN_seq ej
            have hz := (I.lstM hq).1
            have hn := line63
            refine mt_popAt pins sh σ' H2 _ _ v us Q I rx rs ⟨_, _, _, j, w, rfl, rfl, hq, ?_, ?_, by rw [rr.length]; exact q1, hw, h ι2 _ _ (P.trans P2) (rw'.keep (P2.stp.keeps P.rel)) trivial⟩
            · have := rr.length; omega
            · have := rr.length; omega
          · rename_i es; exact (setNode_noexc es).elim
          · exact h.elim
        · exact h.elim
      · exact h.elim
    · exact h.elim
  · obtain ⟨w, rfl, rw'⟩ := reps1 r
    split at h
    · rename_i xs exs
      split at h
      · rename_i zs ezs
        split at h
        · rename_i hl
          split at h
          · rename_i z s' es
            obtain ⟨a, ws, rfl, hq, rr, put⟩ := setLst P.rel k exs es
            cases rw' with
            | ref hι =>
              obtain ⟨us', hus, rz⟩ := P.rel.ok _ _ _ (.cell ezs hι)
              exact mt_extend pins sh σ' H2 _ _ v us Q I rx rs ⟨_, _, _, _, rfl, rfl, hq, hus, by rw [← lim_line, rr.length, rz.length]; exact hl, h ι2 _ _ (P.trans (put _ (rr.append rz))) .non trivial⟩
          · rename_i es; exact (setNode_noexc es).elim
          · exact h.elim
        · exact h.elim
      · exact h.elim
    · exact h.elim
  · cases r with
    | cons ri rr2 =>
      obtain ⟨w, rfl, rw'⟩ := reps1 rr2
      cases ri
      split at h
      · rename_i xs exs
        split at h
        · rename_i hl
          split at h
          · rename_i z s' es
            obtain ⟨a, ws, rfl, hq, rr, put⟩ := setLst P.rel k exs es
            exact mt_insert pins sh σ' H2 _ _ v us Q I rx rs ⟨_, _, _, _, rfl, rfl, hq, by rw [← lim_line, rr.length]; exact hl.1, hl.2.1, hl.2.2, h ι2 _ _ (P.trans (put _ (((rr.take _).append (.cons rw' .nil)).append (rr.drop _)))) .non trivial⟩
          · rename_i es; exact (setNode_noexc es).elim
          · exact h.elim
        · exact h.elim
      · exact h.elim
  · exact h.elim

/-! ### stores -/
def BU (K : Frag) (ι : List Addr) (s : St) (σ : L2.St) (H : Hp) (Q : Hp → Prop) : Unit → St → Prop := fun _ s' => ∀ ι' H', Post K ι s σ H ι' s' H' → Q H'
def rS (K : Frag) (Ex : ExP) : TSet := fun ov iv v H2 Q => ∃ ι s σ H ι2 s2 o i d, Post K ι s σ H ι2 s2 H2 ∧ OpdOk K H2 ι2 s2 σ ov o ∧ Rep K H2 ι2 iv i ∧ Rep K H2 ι2 v d ∧ OutG K ι s σ H Ex (BU K ι s σ H Q) (putO o i d s2)
theorem put_ok : PSet X (rS X.K Ex) := by
  intro pins sh σ' H2 ov iv v ovv ivv vv Q I ro ri rv ⟨ι, s, σ, H, ι2, s2, o, i, d, P, k, ki, kd, h⟩
  unfold putO at h
  split at h
  · rename_i xs exs
    split at h
    · cases ki
      split at h
      · rename_i j ej
        cases es : setNode o (.lst (xs.set j d)) s2 with
        | ok z s' =>
          rw [es] at h
          obtain ⟨a, ws, rfl, hq, rr, put⟩ := setLst P.rel k exs es
          exact set_list pins sh σ' H2 _ _ _ ovv ivv vv Q I ro ri rv ⟨_, _, _, j, rfl, rfl, hq, by rw [rr.length]; exact ej, h ι2 _ (P.trans (put _ (Reps.set kd j rr)))⟩
        | exc x s' => exact (setNode_noexc es).elim
        | stuck => rw [es] at h; exact h.elim
      · exact h.elim
    · exact h.elim
  · exact h.elim

/-! ### isinstance -/
def tyName : Ty → String
  | .int => "int" | .bool => "bool" | .str => "str" | .tuple => "tuple" | .list => "list" | .non => "NoneType"
theorem kit_all : ∀ a b : Ty, b ≠ .non → kitB (tyName a) (tyName b) = some (a.below b) := by
  intro a b hb
  cases b <;> first | exact (hb rfl).elim | (cases a <;> decide +kernel)
theorem ty_ok {K : Frag} {ι : List Addr} {s : St} {σ : L2.St} {H : Hp} (R : Rel K ι s σ H) {x : V} {o : Opd} {t : Ty} (k : OpdOk K H ι s σ x o) (e : tyOf o s = some t) : TyX K H x (.type (tyName t)) := by
  have lst : ∀ {ds : List D}, lstOf o s = some ds → TyX K H x (.type "list") := fun {ds} e => by
    obtain ⟨a, vs, rfl, h, r⟩ := lst_ok R k e
    rcases h with (h | ⟨ob, h⟩) | ⟨ob, its, n, h1, h2, _⟩
    · exact .base (.lst h)
    · exact .base (.frz h)
    · exact .kList h1 h2
  unfold tyOf at e
  split at e
  · cases e; cases (show Rep _ _ _ _ _ from k); exact .base .non
  · cases e; cases (show Rep _ _ _ _ _ from k); exact .base (.bl _)
  · cases e; cases (show Rep _ _ _ _ _ from k); exact .base (.int _)
  · cases e; cases (show Rep _ _ _ _ _ from k); exact .base (.str _)
  · cases e
    cases (show Rep _ _ _ _ _ from k) with
    | tup h r =>
      rcases h with (h | ⟨ob, h⟩) | ⟨ob, its, n, h1, h2, _⟩
      · exact .base (.tup h)
      · exact .fTuple h
      · exact .kTuple h1 h2
  · split at e
    · rename_i e1
      cases e; exact lst (by unfold lstOf; rw [e1])
    · rename_i e1
      cases e; exact lst (by unfold lstOf; rw [e1])
    · cases e
theorem kitAny_all {K : Frag} (t : Ty) : ∀ ts : List Ty, (∀ b ∈ ts, b ≠ .non) → PySem.W.kitAny K (.type (tyName t)) (ts.map fun b => .type (tyName b)) = some (ts.any t.below)
  | [], _ => rfl
  | b :: ts, h => by
    refine kitAny_cons (kit_ty (kit_all t b (h b List.mem_cons_self))) (fun e => ?_) fun e => ?_
    · rw [List.any_cons, e, Bool.false_or]
      exact kitAny_all t ts fun c hc => h c (List.mem_cons_of_mem _ hc)
    · rw [List.any_cons, e]; rfl
end
end Y

/-! Y6: the constructs of an expression. -/
set_option linter.all false
set_option maxRecDepth 100000
set_option Elab.async false
set_option autoImplicit false
set_option maxHeartbeats 1000000
namespace Y
open PySem PySem.Spec L2
section
variable {X : Cx} {Ex : ExP}
theorem pe_weak {e : Expr} {t t' : TE} (h : PE X e t) (w : ∀ σ H Q, t' σ H Q → t σ H Q) : PE X e t' := ⟨fun pins s σ H Q I q => h.run pins s σ H Q I (w σ H Q q)⟩
theorem pt_weak {e : Expr} {t t' : TT} (h : PT X e t) (w : ∀ σ H Q, t' σ H Q → t σ H Q) : PT X e t' := ⟨fun pins s σ H Q I q => h.run pins s σ H Q I (w σ H Q q)⟩
theorem pw_weak {e : Expr} {t t' : TT} (h : PW X e t) (w : ∀ σ H Q, t' σ H Q → t σ H Q) : PW X e t' := ⟨fun wh pins s σ H Q I q => h.run wh pins s σ H Q I (w σ H Q q)⟩
theorem pa_weak {e : List Expr} {t t' : TA} (h : PA X e t) (w : ∀ σ H Q, t' σ H Q → t σ H Q) : PA X e t' := ⟨fun pos pins s σ H Q I q => h.run pos pins s σ H Q I (w σ H Q q)⟩
/-- a test that is wanted -/
def BB (K : Frag) (ι : List Addr) (s : St) (σ : L2.St) (H : Hp) (Q : Bool → Hp → Prop) : Bool → St → Prop := fun b s' => ∀ ι' H', Post K ι s σ H ι' s' H' → Q b H'
def tT (K : Frag) (Ex : ExP) (m : M Bool) : TT := fun σ H Q => ∃ ι s, Rel K ι s σ H ∧ OutG K ι s σ H Ex (BB K ι s σ H Q) (m s)
def BO (K : Frag) (ι : List Addr) (s : St) (σ : L2.St) (H : Hp) (Q : List V → Hp → Prop) : List Opd → St → Prop := fun os s' => ∀ ι' vs H', Post K ι s σ H ι' s' H' → OpdsOk K H' ι' s' σ vs os → Q vs H'
def tO (K : Frag) (Ex : ExP) (m : M (List Opd)) : TA := fun σ H Q => ∃ ι s, Rel K ι s σ H ∧ OutG K ι s σ H Ex (BO K ι s σ H Q) (m s)
def BD (K : Frag) (ι : List Addr) (s : St) (σ : L2.St) (H : Hp) (Q : List V → Hp → Prop) : List D → St → Prop := fun ds s' => ∀ ι' vs H', Post K ι s σ H ι' s' H' → Reps K H' ι' vs ds → Q vs H'
def tD (K : Frag) (Ex : ExP) (m : M (List D)) : TA := fun σ H Q => ∃ ι s, Rel K ι s σ H ∧ OutG K ι s σ H Ex (BD K ι s σ H Q) (m s)
abbrev PEm (X : Cx) (Ex : ExP) (e : Expr) (m : M Opd) : Prop := PE X e (tE X.K Ex m)
abbrev PTm (X : Cx) (Ex : ExP) (e : Expr) (m : M Bool) : Prop := PT X e (tT X.K Ex m)
abbrev PAo (X : Cx) (Ex : ExP) (es : List Expr) (m : M (List Opd)) : Prop := PA X es (tO X.K Ex m)
abbrev PAd (X : Cx) (Ex : ExP) (es : List Expr) (m : M (List D)) : Prop := PA X es (tD X.K Ex m)
section
variable {K : Frag} {ι ι1 : List Addr} {s s1 : St} {σ : L2.St} {H H1 : Hp}
theorem tT_next {β : Type} (P : Post K ι s σ H ι1 s1 H1) {m : M Bool} {g : Bool → M β} {B : β → St → Prop} (h : OutG K ι s σ H Ex B (M.bind m g s1)) :
    tT K Ex m σ H1 (fun b H2 => ∃ ι2 s2, Post K ι s σ H ι2 s2 H2 ∧ Post K ι1 s1 σ H1 ι2 s2 H2 ∧ OutG K ι s σ H Ex B (g b s2)) := by
  refine ⟨ι1, s1, P.rel, ?_⟩
  unfold M.bind at h
  cases e : m s1 with
  | ok b s2 =>
    rw [e] at h
    intro ι2 H2 P2
    exact ⟨ι2, s2, P.trans P2, P2, h⟩
  | exc x s2 => rw [e] at h; exact ⟨h.1, fun ι2 H2 P2 => h.2 ι2 H2 (P.trans P2)⟩
  | stuck => rw [e] at h; exact h.elim
theorem tO_next {β : Type} (P : Post K ι s σ H ι1 s1 H1) {m : M (List Opd)} {g : List Opd → M β} {B : β → St → Prop} (h : OutG K ι s σ H Ex B (M.bind m g s1)) :
    tO K Ex m σ H1 (fun vs H2 => ∃ ι2 s2 os, Post K ι s σ H ι2 s2 H2 ∧ Post K ι1 s1 σ H1 ι2 s2 H2 ∧ OpdsOk K H2 ι2 s2 σ vs os ∧ OutG K ι s σ H Ex B (g os s2)) := by
  refine ⟨ι1, s1, P.rel, ?_⟩
  unfold M.bind at h
  cases e : m s1 with
  | ok b s2 =>
    rw [e] at h
    intro ι2 vs H2 P2 k
    exact ⟨ι2, s2, b, P.trans P2, P2, k, h⟩
  | exc x s2 => rw [e] at h; exact ⟨h.1, fun ι2 H2 P2 => h.2 ι2 H2 (P.trans P2)⟩
  | stuck => rw [e] at h; exact h.elim
theorem tD_next {β : Type} (P : Post K ι s σ H ι1 s1 H1) {m : M (List D)} {g : List D → M β} {B : β → St → Prop} (h : OutG K ι s σ H Ex B (M.bind m g s1)) :
    tD K Ex m σ H1 (fun vs H2 => ∃ ι2 s2 ds, Post K ι s σ H ι2 s2 H2 ∧ Post K ι1 s1 σ H1 ι2 s2 H2 ∧ Reps K H2 ι2 vs ds ∧ OutG K ι s σ H Ex B (g ds s2)) := by
  refine ⟨ι1, s1, P.rel, ?_⟩
  unfold M.bind at h
  cases e : m s1 with
  | ok b s2 =>
    rw [e] at h
    intro ι2 vs H2 P2 k
    exact ⟨ι2, s2, b, P.trans P2, P2, k, h⟩
  | exc x s2 => rw [e] at h; exact ⟨h.1, fun ι2 H2 P2 => h.2 ι2 H2 (P.trans P2)⟩
  | stuck => rw [e] at h; exact h.elim
/-- an operand becomes a value -/
theorem toD_next {β : Type} (P : Post K ι s σ H ι1 s1 H1) {v : V} {o : Opd} (k : OpdOk K H1 ι1 s1 σ v o) (n : NewOk H v o) {g : D → M β} {B : β → St → Prop} (h : OutG K ι s σ H Ex B (M.bind (toD o) g s1)) :
    ∃ ι2 s2 d, Post K ι s σ H ι2 s2 H1 ∧ Rep K H1 ι2 v d ∧ OutG K ι s σ H Ex B (g d s2) ∧
      (∀ {ιa : List Addr} {sa : St} {Ha : Hp}, Post K ιa sa σ Ha ι1 s1 H1 → NewOk Ha v o → Post K ιa sa σ Ha ι2 s2 H1) := by
  unfold M.bind at h
  cases e : toD o s1 with
  | ok d s2 =>
    rw [e] at h
    obtain ⟨ι2, r, f⟩ := toD_ok P.rel k e
    exact ⟨ι2, s2, d, f P n, r, h, f⟩
  | exc x s2 =>
    exfalso
    unfold toD at e
    repeat' split at e
    all_goals cases e
  | stuck => rw [e] at h; exact h.elim
end
/-! ### tests out of values -/
theorem ptm_of {e : Expr} {m : M Opd} (h : PEm X Ex e m) (he : ∀ whole, isTrue e X.env whole = (do let v ← whole; standAt e.pos; holding [v] (truthy v))) : PTm X Ex e (M.bind m truth) := by
  refine ⟨fun pins sh σ H Q I ⟨ι, s, R, q⟩ => ?_⟩
  refine PyProof.Rows.isTrue_plain (thn (h.run pins sh σ H _ I (ev_next (.refl R) q)) fun v s1 ⟨x, H1, I1, r1, ι2, s2, o, P, _, k, _, q1⟩ => ?_) (he _)
  cases et : truth o s2 with
  | ok b s3 =>
    rw [et] at q1
    obtain ⟨rfl, run⟩ := truth_run (Q := Q) I1 r1 P.rel k et
    exact run (q1 ι2 H1 P)
  | exc x s3 => exact (truth_noexc et).elim
  | stuck => rw [et] at q1; exact q1.elim
/-! ### leaves -/
theorem pem_val {e : Expr} {v : V} {d : D} (h : PE X e (tC v)) (r : ∀ K H ι, Rep K H ι v d) : PEm X Ex e (val d) :=
  pe_weak h fun σ H Q ⟨ι, s, R, q⟩ => q ι v H (.refl R) (r _ _ _) trivial
theorem pem_var {i : Nat} {x : Str} {pos : Pos} (hN : X.N[i]? = some x) (hv : Vis X.env.scope x) (hd : (x == ("__debug__" : Str)) = false) (hcd : (x == ("__classdict__" : Str)) = false) : PEm X Ex (.Name x pos) (mVar i) := by
  refine pe_weak (pe_var hN hv hd hcd) fun σ H Q ⟨ι, s, R, q⟩ => ?_
  unfold mVar at q
  split at q
  · rename_i d e
    obtain ⟨v, h1, h2⟩ := R.slot _ _ e
    exact ⟨v, h1, q ι v H (.refl R) h2 trivial⟩
  · rename_i n e
    obtain ⟨a, h1⟩ := R.own _ _ e
    exact ⟨.ref a, h1, q ι _ H (.refl R) h1 trivial⟩
  · exact q.elim
/-! ### arguments -/
theorem pao_nil : PAo X Ex [] (mOs []) := pa_weak pa_nil fun σ H Q ⟨ι, s, R, q⟩ => q ι [] H (.refl R) .nil
theorem pao_cons {e : Expr} {es : List Expr} {m : Mean} {ms : List Mean} (he : PEm X Ex e m.E) (hes : PAo X Ex es (mOs ms)) (hs : starEach (e :: es) X.env = (false, eval e X.env) :: starEach es X.env) : PAo X Ex (e :: es) (mOs (m :: ms)) := by
  refine pa_weak (pa_cons he hes hs) fun σ H Q ⟨ι, s, R, q⟩ => ?_
  refine tE_mono (ev_next (g := fun o => M.bind (mOs ms) fun os => M.pure (o :: os)) (.refl R) q) fun v1 H1 ⟨ι1, s1, o1, P1, _, k1, _, q1⟩ => ?_
  obtain ⟨ι', s', R', q'⟩ := tO_next P1 q1
  refine ⟨ι', s', R', q'.imp fun os s2 b ι2 vs H2 P2 k2 => ?_⟩
  obtain ⟨ι3, s3, os3, P3, P13, k3, q3⟩ := b ι2 vs H2 P2 k2
  exact q3 ι3 _ H2 P3 (.cons (k1.stp P1.rel P13.stp) k3)
theorem pad_nil : PAd X Ex [] (mDs []) := pa_weak pa_nil fun σ H Q ⟨ι, s, R, q⟩ => q ι [] H (.refl R) .nil
theorem pad_cons {e : Expr} {es : List Expr} {m : Mean} {ms : List Mean} (he : PEm X Ex e m.E) (hes : PAd X Ex es (mDs ms)) (hs : starEach (e :: es) X.env = (false, eval e X.env) :: starEach es X.env) : PAd X Ex (e :: es) (mDs (m :: ms)) := by
  refine pa_weak (pa_cons he hes hs) fun σ H Q ⟨ι, s, R, q⟩ => ?_
  refine tE_mono (ev_next (g := fun o => M.bind (toD o) fun d => M.bind (mDs ms) fun ds => M.pure (d :: ds)) (.refl R) q) fun v1 H1 ⟨ι1, s1, o1, P1, _, k1, n1, q1⟩ => ?_
  obtain ⟨ι2, s2, d, P2, r2, q2, _⟩ := toD_next P1 k1 n1 q1
  obtain ⟨ι', s', R', q'⟩ := tD_next P2 q2
  refine ⟨ι', s', R', q'.imp fun ds s3 b ι3 vs H3 P3 k3 => ?_⟩
  obtain ⟨ι4, s4, ds4, P4, P24, k4, q4⟩ := b ι3 vs H3 P3 k3
  exact q4 ι4 _ H3 P4 (.cons (r2.keep (P24.stp.keeps P2.rel)) k4)
/-! ### displays -/
theorem pem_tup {es : List Expr} {k : Nat} {pos : Pos} {ms : List Mean} (h : PAd X Ex es (mDs ms)) (hn : ms.length ≤ 1000) (hl : ∀ s ds s', mDs ms s = .ok ds s' → ds.length = ms.length) : PEm X Ex (.Tuple es k pos) (M.bind (mDs ms) fun ds => val (.tup ds)) := by
  refine pe_weak (pe_tup h) fun σ H Q ⟨ι, s, R, q⟩ => ?_
  obtain ⟨ι', s', R', q'⟩ := tD_next (.refl R) q
  refine ⟨ι', s', R', ?_⟩
  cases e : mDs ms s' with
  | ok ds s2 =>
    rw [e] at q'
    intro ι2 vs H2 P2 k2
    obtain ⟨ι3, s3, ds3, P3, _, k3, q3⟩ := q' ι2 vs H2 P2 k2
    have hlen := hl _ _ _ e
    have hz : (1000 : Nat) ≤ sizeLine := by rw [sizeLine_eq]; decide
    refine ⟨by rw [k2.length, hlen]; omega, fun p hp => fin_tup P3 hp k3 q3⟩
  | exc x s2 => rw [e] at q'; exact q'
  | stuck => rw [e] at q'; exact q'
theorem pem_lst {es : List Expr} {pos : Pos} {ms : List Mean} (h : PAd X Ex es (mDs ms)) (hn : ms.length ≤ 1000) (hl : ∀ s ds s', mDs ms s = .ok ds s' → ds.length = ms.length) : PEm X Ex (.List es pos) (M.bind (mDs ms) fun ds => tmp (.lst ds)) := by
  refine pe_weak (pe_lst h) fun σ H Q ⟨ι, s, R, q⟩ => ?_
  obtain ⟨ι', s', R', q'⟩ := tD_next (.refl R) q
  refine ⟨ι', s', R', ?_⟩
  cases e : mDs ms s' with
  | ok ds s2 =>
    rw [e] at q'
    intro ι2 vs H2 P2 k2
    obtain ⟨ι3, s3, ds3, P3, _, k3, q3⟩ := q' ι2 vs H2 P2 k2
    have hlen := hl _ _ _ e
    have hz : (1000 : Nat) ≤ sizeLine := by rw [sizeLine_eq]; decide
    refine ⟨by rw [k2.length, hlen]; omega, fun p hp => fin_lst P3 hp k3 q3⟩
  | exc x s2 => rw [e] at q'; exact q'
  | stuck => rw [e] at q'; exact q'
theorem mDs_length : ∀ {ms : List Mean} {s : St} {ds : List D} {s' : St}, mDs ms s = .ok ds s' → ds.length = ms.length
  | [], _, _, _, h => by cases h; rfl
  | m :: ms, s, ds, s', h => by
    have h : M.bind m.E (fun o => M.bind (toD o) fun d => M.bind (mDs ms) fun ds => M.pure (d :: ds)) s = .ok ds s' := h
    unfold M.bind at h
    cases e1 : m.E s with
    | ok o s1 =>
      rw [e1] at h
      simp only at h
      cases e2 : toD o s1 with
      | ok d s2 =>
        rw [e2] at h
        simp only at h
        cases e3 : mDs ms s2 with
        | ok ds2 s3 =>
          rw [e3] at h
          cases h
          rw [List.length_cons, List.length_cons, mDs_length e3]
        | exc x s3 => rw [e3] at h; cases h
        | stuck => rw [e3] at h; cases h
      | exc x s3 => rw [e2] at h; cases h
      | stuck => rw [e2] at h; cases h
    | exc x s3 => rw [e1] at h; cases h
    | stuck => rw [e1] at h; cases h
/-! ### operators -/
theorem two_next {K : Frag} {a b : M Opd} {f : Opd → Opd → M Opd} {σ : L2.St} {H : Hp} {Q : VK} (h : tE K Ex (M.bind a fun x => M.bind b fun y => f x y) σ H Q) :
    tE K Ex a σ H fun x H1 => tE K Ex b σ H1 fun y H2 => rO K Ex f x y H2 Q := by
  obtain ⟨ι, s, R, q⟩ := h
  refine tE_mono (ev_next (.refl R) q) fun v1 H1 ⟨ι1, s1, o1, P1, _, k1, _, q1⟩ => ?_
  refine tE_mono (ev_next P1 q1) fun v2 H2 ⟨ι2, s2, o2, P2, P12, k2, _, q2⟩ => ?_
  exact ⟨ι, s, σ, H, ι2, s2, o1, o2, P2, k1.stp P1.rel P12.stp, k2, q2⟩
theorem pem_bin {a b : Expr} {pos : Pos} {ma mb : M Opd} {o : Op2} {op : Operator} (eo : op = opOf o) (ha : PEm X Ex a ma) (hb : PEm X Ex b mb) : PEm X Ex (.BinOp a op b pos) (M.bind ma fun x => M.bind mb fun y => op2 o x y) := by
  subst eo
  exact pe_weak (pe_op (op2_ok o) ha hb) fun σ H Q h => two_next h
theorem pem_cmp {a b : Expr} {pos : Pos} {ma mb : M Opd} {c : Cm} {op : CmpOp} (hu : X.A.units + 65 < cLine) (eo : op = cmOf c) (ha : PEm X Ex a ma) (hb : PEm X Ex b mb) (hm : behindInMarks op b = false) :
    PEm X Ex (.Compare a [op] [b] pos) (M.bind ma fun x => M.bind mb fun y => bl (cmp c x y)) := by
  subst eo
  exact pe_weak (pe_cmpR (cmp_ok hu c) ha hb hm) fun σ H Q h => two_next h
theorem bl_truth (m : M Bool) : M.bind (bl m) truth = m := by
  funext s
  unfold M.bind bl
  cases m s <;> rfl
theorem ptm_cmp {a b : Expr} {pos : Pos} {ma mb : M Opd} {c : Cm} {op : CmpOp} (hu : X.A.units + 65 < cLine) (eo : op = cmOf c) (ha : PEm X Ex a ma) (hb : PEm X Ex b mb) (hm : behindInMarks op b = false) :
    PTm X Ex (.Compare a [op] [b] pos) (M.bind (M.bind ma fun x => M.bind mb fun y => bl (cmp c x y)) truth) := by
  subst eo
  refine pt_weak (pt_cmpR (cmp_ok (Ex := Ex) hu c) ha hb hm) fun σ H Q ⟨ι, s, R, q⟩ => ?_
  have e : M.bind (M.bind ma fun x => M.bind mb fun y => bl (cmp c x y)) truth = M.bind ma fun x => M.bind mb fun y => cmp c x y := by
    funext s
    show M.bind (M.bind ma fun x => M.bind mb fun y => bl (cmp c x y)) truth s = _
    unfold M.bind
    cases ma s with
    | ok x s1 =>
      simp only
      cases mb s1 with
      | ok y s2 =>
        simp only [bl]
        cases cmp c x y s2 <;> rfl
      | _ => rfl
    | _ => rfl
  rw [e] at q
  refine tE_mono (ev_next (.refl R) q) fun v1 H1 ⟨ι1, s1, o1, P1, _, k1, _, q1⟩ => ?_
  refine tE_mono (ev_next P1 q1) fun v2 H2 ⟨ι2, s2, o2, P2, P12, k2, _, q2⟩ => ?_
  refine ⟨ι, s, σ, H, ι2, s2, o1, o2, P2, k1.stp P1.rel P12.stp, k2, ?_⟩
  cases ec : cmp c o1 o2 s2 with
  | ok r s3 =>
    rw [ec] at q2
    show OutG _ _ _ _ _ _ _ (bl (cmp c o1 o2) s2)
    unfold bl
    rw [ec]
    intro ι3 v H3 P3 k3 _
    cases (show Rep _ _ _ _ _ from k3)
    exact ⟨r, rfl, q2 ι3 H3 P3⟩
  | exc x s3 => exact (cmp_noexc ec).elim
  | stuck => rw [ec] at q2; exact q2.elim
theorem pem_neg {a : Expr} {pos : Pos} {ma : M Opd} (ha : PEm X Ex a ma) : PEm X Ex (.UnaryOp .USub a pos) (M.bind ma negO) := by
  refine pe_weak (pe_un un_neg ha) fun σ H Q ⟨ι, s, R, q⟩ => ?_
  refine tE_mono (ev_next (.refl R) q) fun v1 H1 ⟨ι1, s1, o1, P1, _, k1, _, q1⟩ => ?_
  unfold negO at q1
  split at q1
  · cases (show Rep _ _ _ _ _ from k1)
    exact ⟨_, rfl, fin_val P1 (.int _) q1⟩
  · exact q1.elim
/-! ### and, or, not, if -/
theorem asB_ok {K : Frag} {ι : List Addr} {s s' : St} {σ : L2.St} {H : Hp} {v : V} {o : Opd} {b : Bool} (k : OpdOk K H ι s σ v o) (e : asB o s = .ok b s') : v = .bl b ∧ s' = s := by
  unfold asB at e
  split at e
  · cases e; cases (show Rep _ _ _ _ _ from k); exact ⟨rfl, rfl⟩
  · cases e
theorem asB_noexc {o : Opd} {s : St} {x : Exn} {s' : St} : asB o s ≠ .exc x s' := by
  unfold asB
  split <;> (intro h; cases h)
/-- the rest of an evaluation from a later state on -/
theorem tE_later {K : Frag} {ι ι1 : List Addr} {s s1 : St} {σ : L2.St} {H H1 : Hp} {Q : VK} {m : M Opd} (P : Post K ι s σ H ι1 s1 H1) (q : OutG K ι s σ H Ex (BQ K ι s σ H Q) (m s1)) : tE K Ex m σ H1 Q := by
  refine ⟨ι1, s1, P.rel, ?_⟩
  cases e : m s1 with
  | ok o s2 => rw [e] at q; exact fun ι' v H' P' k n => q ι' v H' (P.trans P') k (n.back P.stp)
  | exc x s2 => rw [e] at q; exact ⟨q.1, fun ι' H' P' => q.2 ι' H' (P.trans P')⟩
  | stuck => rw [e] at q; exact q.elim
theorem tT_later {K : Frag} {ι ι1 : List Addr} {s s1 : St} {σ : L2.St} {H H1 : Hp} {Q : Bool → Hp → Prop} {m : M Bool} (P : Post K ι s σ H ι1 s1 H1) (q : OutG K ι s σ H Ex (BB K ι s σ H Q) (m s1)) : tT K Ex m σ H1 Q := by
  refine ⟨ι1, s1, P.rel, ?_⟩
  cases e : m s1 with
  | ok o s2 => rw [e] at q; exact fun ι' H' P' => q ι' H' (P.trans P')
  | exc x s2 => rw [e] at q; exact ⟨q.1, fun ι' H' P' => q.2 ι' H' (P.trans P')⟩
  | stuck => rw [e] at q; exact q.elim
theorem pem_and {a b : Expr} {rest : List Expr} {pos : Pos} {ma mb : M Opd} (ha : PEm X Ex a ma) (hb : PEm X Ex (.BoolOp .And (b :: rest) pos) mb) :
    PEm X Ex (.BoolOp .And (a :: b :: rest) pos) (M.bind ma fun x => M.bind (asB x) fun k => if k = true then mb else val (.bl false)) := by
  refine pe_weak (pe_and ha hb) fun σ H Q ⟨ι, s, R, q⟩ => ?_
  refine tE_mono (ev_next (.refl R) q) fun v1 H1 ⟨ι1, s1, o1, P1, _, k1, _, q1⟩ => ?_
  unfold M.bind at q1
  cases e : asB o1 s1 with
  | ok k s2 =>
    rw [e] at q1
    obtain ⟨rfl, rfl⟩ := asB_ok k1 e
    refine ⟨k, rfl, ?_⟩
    cases k with
    | true => rw [if_pos rfl]; exact tE_later P1 q1
    | false => rw [if_neg Bool.false_ne_true]; exact fin_val P1 (.bl _) q1
  | exc x s2 => exact (asB_noexc e).elim
  | stuck => rw [e] at q1; exact q1.elim
theorem pem_or {a b : Expr} {rest : List Expr} {pos : Pos} {ma mb : M Opd} (ha : PEm X Ex a ma) (hb : PEm X Ex (.BoolOp .Or (b :: rest) pos) mb) :
    PEm X Ex (.BoolOp .Or (a :: b :: rest) pos) (M.bind ma fun x => M.bind (asB x) fun k => if k = true then val (.bl true) else mb) := by
  refine pe_weak (pe_or ha hb) fun σ H Q ⟨ι, s, R, q⟩ => ?_
  refine tE_mono (ev_next (.refl R) q) fun v1 H1 ⟨ι1, s1, o1, P1, _, k1, _, q1⟩ => ?_
  unfold M.bind at q1
  cases e : asB o1 s1 with
  | ok k s2 =>
    rw [e] at q1
    obtain ⟨rfl, rfl⟩ := asB_ok k1 e
    refine ⟨k, rfl, ?_⟩
    cases k with
    | true => rw [if_pos rfl]; exact fin_val P1 (.bl _) q1
    | false => rw [if_neg Bool.false_ne_true]; exact tE_later P1 q1
  | exc x s2 => exact (asB_noexc e).elim
  | stuck => rw [e] at q1; exact q1.elim
theorem ptm_and {a b : Expr} {rest : List Expr} {pos : Pos} {ma mb : M Bool} (ha : PTm X Ex a ma) (hb : PW X (.BoolOp .And (b :: rest) pos) (tT X.K Ex mb)) :
    PW X (.BoolOp .And (a :: b :: rest) pos) (tT X.K Ex (M.bind ma fun k => if k = true then mb else M.pure false)) := by
  refine pw_weak (pw_and ha hb) fun σ H Q ⟨ι, s, R, q⟩ => ?_
  obtain ⟨ι', s', R', q'⟩ := tT_next (.refl R) q
  refine ⟨ι', s', R', q'.imp fun k s2 b ι2 H2 P2 => ?_⟩
  obtain ⟨ι3, s3, P3, _, q3⟩ := b ι2 H2 P2
  cases k with
  | true => rw [if_pos rfl] at q3 ⊢; exact tT_later P3 q3
  | false => rw [if_neg Bool.false_ne_true] at q3 ⊢; exact q3 ι3 H2 P3
theorem ptm_or {a b : Expr} {rest : List Expr} {pos : Pos} {ma mb : M Bool} (ha : PTm X Ex a ma) (hb : PW X (.BoolOp .Or (b :: rest) pos) (tT X.K Ex mb)) :
    PW X (.BoolOp .Or (a :: b :: rest) pos) (tT X.K Ex (M.bind ma fun k => if k = true then M.pure true else mb)) := by
  refine pw_weak (pw_or ha hb) fun σ H Q ⟨ι, s, R, q⟩ => ?_
  obtain ⟨ι', s', R', q'⟩ := tT_next (.refl R) q
  refine ⟨ι', s', R', q'.imp fun k s2 b ι2 H2 P2 => ?_⟩
  obtain ⟨ι3, s3, P3, _, q3⟩ := b ι2 H2 P2
  cases k with
  | true => rw [if_pos rfl] at q3 ⊢; exact q3 ι3 H2 P3
  | false => rw [if_neg Bool.false_ne_true] at q3 ⊢; exact tT_later P3 q3
theorem ptm_not {a : Expr} {pos : Pos} {ma : M Bool} (ha : PTm X Ex a ma) : PTm X Ex (.UnaryOp .Not a pos) (M.bind ma fun k => M.pure (!k)) := by
  refine pt_weak (pt_not ha) fun σ H Q ⟨ι, s, R, q⟩ => ?_
  obtain ⟨ι', s', R', q'⟩ := tT_next (.refl R) q
  refine ⟨ι', s', R', q'.imp fun k s2 b ι2 H2 P2 => ?_⟩
  obtain ⟨ι3, s3, P3, _, q3⟩ := b ι2 H2 P2
  exact q3 ι3 H2 P3
theorem pem_not {a : Expr} {pos : Pos} {ma : M Opd} (ha : PEm X Ex a ma) : PEm X Ex (.UnaryOp .Not a pos) (M.bind ma fun x => M.bind (truth x) fun k => val (.bl (!k))) := by
  refine ⟨fun pins sh σ H Q I ⟨ι, s, R, q⟩ => ?_⟩
  refine PyProof.Rows.UnaryOp_ (thn (ha.run pins sh σ H _ I (ev_next (.refl R) q)) fun v s1 ⟨x, H1, I1, r1, ι1, s2, o1, P1, _, k1, _, q1⟩ => ?_)
  unfold M.bind at q1
  cases et : truth o1 s2 with
  | ok b s3 =>
    rw [et] at q1
    obtain ⟨rfl, run⟩ := truth_run (Q := fun b' H' => b' = b ∧ H' = H1) I1 r1 P1.rel k1 et
    refine PyProof.Rows.not_of (thn (run ⟨rfl, rfl⟩) fun b' s4 ⟨H4, I4, e1, e2⟩ => ?_)
    subst e1 e2
    exact ⟨.bl (!b'), H4, I4, rfl, fin_val P1 (.bl _) q1⟩
  | exc x s3 => exact (truth_noexc et).elim
  | stuck => rw [et] at q1; exact q1.elim
theorem pem_ife {c a b : Expr} {pos : Pos} {mc : M Bool} {ma mb : M Opd} (hc : PTm X Ex c mc) (ha : PEm X Ex a ma) (hb : PEm X Ex b mb) :
    PEm X Ex (.IfExp c a b pos) (M.bind mc fun k => if k = true then ma else mb) := by
  refine pe_weak (pe_ifExp hc ha hb) fun σ H Q ⟨ι, s, R, q⟩ => ?_
  obtain ⟨ι', s', R', q'⟩ := tT_next (.refl R) q
  refine ⟨ι', s', R', q'.imp fun k s2 b ι2 H2 P2 => ?_⟩
  obtain ⟨ι3, s3, P3, _, q3⟩ := b ι2 H2 P2
  cases k with
  | true => rw [if_pos rfl] at q3 ⊢; exact tE_later P3 q3
  | false => rw [if_neg Bool.false_ne_true] at q3 ⊢; exact tE_later P3 q3
end
end Y

/-! Y7: subscripts, slices, calls, methods, walks. -/
set_option linter.all false
set_option maxRecDepth 100000
set_option Elab.async false
set_option autoImplicit false
set_option maxHeartbeats 1000000
namespace Y
open PySem PySem.Spec L2
section
variable {X : Cx} {Ex : ExP}
theorem pem_sub {a b : Expr} {pos : Pos} {ma mb : M Opd} (ha : PEm X Ex a ma) (hb : PEm X Ex b mb) (hs : PlainIx b) : PEm X Ex (.Subscript a b pos) (M.bind ma fun x => M.bind mb fun y => subO x y) :=
  pe_weak (pe_ix sub_ok ha hb hs) fun σ H Q h => two_next h
def BP (K : Frag) (ι : List Addr) (s : St) (σ : L2.St) (H : Hp) (Q : Option Int → Hp → Prop) : Option Int → St → Prop := fun o s' => ∀ ι' H', Post K ι s σ H ι' s' H' → Q o H'
def tP (K : Frag) (Ex : ExP) (m : M (Option Int)) : TO := fun σ H Q => ∃ ι s, Rel K ι s σ H ∧ OutG K ι s σ H Ex (BP K ι s σ H Q) (m s)
theorem tP_next {K : Frag} {ι ι1 : List Addr} {s s1 : St} {σ : L2.St} {H H1 : Hp} {β : Type} (P : Post K ι s σ H ι1 s1 H1) {m : M (Option Int)} {g : Option Int → M β} {B : β → St → Prop} (h : OutG K ι s σ H Ex B (M.bind m g s1)) :
    tP K Ex m σ H1 (fun b H2 => ∃ ι2 s2, Post K ι s σ H ι2 s2 H2 ∧ Post K ι1 s1 σ H1 ι2 s2 H2 ∧ OutG K ι s σ H Ex B (g b s2)) := by
  refine ⟨ι1, s1, P.rel, ?_⟩
  unfold M.bind at h
  cases e : m s1 with
  | ok b s2 => rw [e] at h; intro ι2 H2 P2; exact ⟨ι2, s2, P.trans P2, P2, h⟩
  | exc x s2 => rw [e] at h; exact ⟨h.1, fun ι2 H2 P2 => h.2 ι2 H2 (P.trans P2)⟩
  | stuck => rw [e] at h; exact h.elim
theorem po_weak {e : Option Expr} {t t' : TO} (h : PO X e t) (w : ∀ σ H Q, t' σ H Q → t σ H Q) : PO X e t' := ⟨fun pins s σ H Q I q => h.run pins s σ H Q I (w σ H Q q)⟩
theorem pom_none : PO X none (tP X.K Ex (mPart [])) := po_weak po_none fun σ H Q ⟨ι, s, R, q⟩ => q ι H (.refl R)
theorem pom_some {e : Expr} {m : Mean} (h : PEm X Ex e m.E) : PO X (some e) (tP X.K Ex (mPart [m])) := by
  refine po_weak (po_some h) fun σ H Q ⟨ι, s, R, q⟩ => ?_
  refine tE_mono (ev_next (.refl R) q) fun v1 H1 ⟨ι1, s1, o1, P1, _, k1, _, q1⟩ => ?_
  unfold intOf at q1
  split at q1
  · cases (show Rep _ _ _ _ _ from k1)
    exact ⟨_, rfl, q1 ι1 H1 P1⟩
  · exact q1.elim
theorem pem_cut {a : Expr} {lo hi : Option Expr} {p2 pos : Pos} {ma : M Opd} {ml mh : List Mean} (ha : PEm X Ex a ma) (hl : PO X lo (tP X.K Ex (mPart ml))) (hh : PO X hi (tP X.K Ex (mPart mh))) :
    PEm X Ex (.Subscript a (.Slice lo hi none p2) pos) (M.bind ma fun x => M.bind (mPart ml) fun l => M.bind (mPart mh) fun h => cutO x l h) := by
  refine pe_weak (pe_slice (cut_ok (Ex := Ex)) ha hl hh) fun σ H Q ⟨ι, s, R, q⟩ => ?_
  refine tE_mono (ev_next (.refl R) q) fun v1 H1 ⟨ι1, s1, o1, P1, _, k1, _, q1⟩ => ?_
  obtain ⟨ι', s', R', q'⟩ := tP_next P1 q1
  refine ⟨ι', s', R', q'.imp fun l s2 b ι2 H2 P2 => ?_⟩
  obtain ⟨ι3, s3, P3, P13, q3⟩ := b ι2 H2 P2
  obtain ⟨ι4, s4, R4, q4⟩ := tP_next P3 q3
  refine ⟨ι4, s4, R4, q4.imp fun h s5 b5 ι5 H5 P5 => ?_⟩
  obtain ⟨ι6, s6, P6, P36, q6⟩ := b5 ι5 H5 P5
  exact ⟨ι, s, σ, H, ι6, s6, o1, P6, (k1.stp P1.rel P13.stp).stp P3.rel P36.stp, q6⟩
/-! ### xs[::-1] -/
theorem pick_rev (xs : Array Value) : ((List.range xs.size).filterMap fun (m : Nat) => xs[(((xs.size : Int) - 1) + (m : Int) * -1).toNat]?).toArray = xs.toList.reverse.toArray := by
  congr 1
  have e : ∀ n, n ≤ xs.size → ((List.range n).filterMap fun (m : Nat) => xs[(((xs.size : Int) - 1) + (m : Int) * -1).toNat]?) = (xs.toList.drop (xs.size - n)).reverse := by
    intro n
    induction n with
    | zero => intro _; simp
    | succ n ih =>
      intro hn
      rw [List.range_succ, List.filterMap_append, ih (by omega)]
      have hi : (((xs.size : Int) - 1) + (n : Int) * -1).toNat = xs.size - (n + 1) := by omega
      have hlt : xs.size - (n + 1) < xs.size := by omega
      rw [show xs.toList.drop (xs.size - (n + 1)) = xs.toList[xs.size - (n + 1)]'(by simpa using hlt) :: xs.toList.drop (xs.size - n) by
        rw [List.drop_eq_getElem_cons (by simpa using hlt)]
        congr 2
        omega]
      rw [List.reverse_cons]
      congr 1
      simp only [List.filterMap_cons, List.filterMap_nil, hi, Array.getElem?_eq_getElem hlt, Array.getElem_toList]
  rw [e xs.size (Nat.le_refl _), Nat.sub_self, List.drop_zero]
theorem adjust_rev (n : Nat) : Builtin.Slice.sliceAdjust none none (-1) (n : Int) = ((n : Int) - 1, -1) := by
  unfold Builtin.Slice.sliceAdjust
  simp
theorem places_rev (n : Nat) : Builtin.Slice.slicePlaces ((n : Int) - 1) (-1) (-1) = n := by
  unfold Builtin.Slice.slicePlaces
  have h1 : ¬ ((-1 : Int) > 0) := by omega
  simp only [h1, if_false]
  split <;> first | (simp; done) | (simp; omega) | omega
section
variable {prog : Program} {w : World} {A : Around} {E : Value → Shared → Prop} {s : Shared}
theorem sliceApplied_rev {sl : Addr} {vs : Value} {n : Nat} {Q : Int × Int × Nat → Shared → Prop} (hs : s.heap.IsSliceOf sl .none .none vs) (pl : IsPart vs (some (-1)))
    (h : Q ((n : Int) - 1, -1, n) s) : wpAny (model prog w) A (Builtin.Slice.sliceApplied (.ref sl) (pure (n : Int))) Q E s := by
  obtain ⟨os, hos, hcs, hds⟩ := id hs
  unfold Builtin.Slice.sliceApplied Builtin.Slice.sliceFields
  refine wpAny_bind (wpAny_bind (wpAny_field hos hds (x := .none) rfl (wpAny_bind (wpAny_field hos hds (x := .none) rfl (wpAny_bind (wpAny_field hos hds (x := vs) rfl (wpAny_pure ?_)))))))
  refine wpAny_bind (HT.slicePart_ pl ?_)
  show wpAny _ _ (if ((-1 : Int) == 0) = true then _ else _) _ _ s
  rw [if_neg (by decide)]
  refine wpAny_bind (HT.slicePart_ .none (wpAny_bind (HT.slicePart_ .none (wpAny_bind (wpAny_pure ?_)))))
  show wpAny _ _ (match Builtin.Slice.sliceAdjust none none (-1) (n : Int) with | (lo, hi) => pure (lo, (-1 : Int), Builtin.Slice.slicePlaces lo hi (-1))) _ _ s
  rw [adjust_rev n]
  show wpAny _ _ (pure ((n : Int) - 1, (-1 : Int), Builtin.Slice.slicePlaces ((n : Int) - 1) (-1) (-1))) _ _ s
  rw [places_rev]
  exact wpAny_pure h
theorem getItem_tuple_rev {t sl : Addr} {items : Array Value} {vs : Value} {Q : Value → Shared → Prop} (ht : PyProof.Rows.IsTup s.heap t items) (hs : s.heap.IsSliceOf sl .none .none vs) (pl : IsPart vs (some (-1)))
    (h : Q (.ref s.heap.objs.size) { s with heap := s.heap.push { cls := .type "tuple", data := .seq items.toList.reverse.toArray } })
    (hsz : items.size ≤ sizeLine) : wpAny (model prog w) A (getItem (.ref t) (.ref sl)) Q E s := by
  have hrev : sizeOk (.seq items.toList.reverse.toArray) := by
    show items.toList.reverse.toArray.size ≤ sizeLine
    simpa using hsz
  obtain ⟨os, hos, hcs, hds⟩ := id hs
  have hTs : s.TypeIs (.ref sl) "slice" := ⟨os, hos, hcs⟩
  unfold getItem
  try with_reducible refine wpAny_holding ?_
  first | refine wpAny_bind (wpAny_pure ?_) | skip
  refine wpAny_bind (wpAny_sequenceKey ht.typeIs (by decide) ?_)
  refine wpAny_bind (wpAny_callSpecial?_slot (name := Str.ofString "__getitem__") ht.typeIs PyProof.Rows.slot_tuple_getitem
    (wpAny_call_entry PyProof.Rows.slot_tuple_getitem ht.typeIs PyProof.Rows.entry_tuple_getitem ?_ (PyProof.Rows.args_tuple_getitem _ _)))
  show wpAny _ _ (Builtin.Tuple.tupleItemsOf (.ref t) >>= _) _ _ s
  refine wpAny_bind (PyProof.Rows.tupleItemsOf_ ht ?_)
  refine wpAny_bind (wpAny_typeOf hTs ?_)
  rw [if_pos (by decide)]
  refine wpAny_bind (sliceApplied_rev hs pl ?_)
  have hno : ¬ ((((items.size : Int) - 1) == 0 && (-1 : Int) == 1 && items.size == items.size) = true) := by
    intro q
    rw [Bool.and_eq_true, Bool.and_eq_true] at q
    exact absurd q.1.2 (by decide)
  show wpAny _ _ (if ((((items.size : Int) - 1) == 0 && (-1 : Int) == 1 && items.size == items.size)) = true then _ else _) _ _ s
  rw [if_neg hno, pick_rev]
  first
    | exact wpAny_bind (m := Builtin.Tuple.tupleExact _) (wpAny_newObj_type (wpAny_pure ⟨_, rfl, wpAny_pure h⟩) hrev)
    | exact wpAny_bind (m := Builtin.Tuple.tupleExact _) (wpAny_newObj_type (wpAny_bind (wpAny_pure (wpAny_pure ⟨_, rfl, wpAny_pure h⟩))) hrev)
    | exact wpAny_bind (wpAny_bind (m := Builtin.Tuple.tupleExact _) (wpAny_newObj_type (wpAny_pure (wpAny_pure ⟨_, rfl, wpAny_pure h⟩)) hrev))
    | exact wpAny_bind (wpAny_bind (m := Builtin.Tuple.tupleExact _) (wpAny_newObj_type (wpAny_pure ⟨_, rfl, wpAny_pure h⟩) hrev))
end
/-- e[::-1], a list or a tuple -/
def tRev (K : Frag) (te : TE) : TE := fun σ H Q => te σ H fun x H1 => ∃ a xs, x = .ref a ∧ ((SqL K H1 a xs ∧ ∀ p, H1 p = none → Q (.ref p) (upd H1 p (.lst xs.reverse))) ∨ (SqT K H1 a xs ∧ ∀ p, H1 p = none → Q (.ref p) (upd H1 p (.tup xs.reverse))))
theorem pe_rev {e : Expr} {te : TE} {k : Nat} {p1 p2 p3 pos : Pos} (he : PE X e te) : PE X (.Subscript e (.Slice none none (some (.UnaryOp .USub (.Constant (.int 1) k p1) p2)) p3) pos) (tRev X.K te) := by
  refine ⟨fun pins s σ H Q I h => ?_⟩
  refine PyProof.Rows.Subscript_ (thn (he.run pins s σ H _ I h) fun v s1 ⟨x, H1, I1, r1, q1⟩ => ?_)
  obtain ⟨a, xs, ex, q⟩ := q1
  subst ex
  cases r1
  have hst : PO X (some (.UnaryOp .USub (.Constant (.int 1) k p1) p2)) (tPart (tUn (rU fun i => .int (-i)) (tC (.int 1)))) := po_some (pe_un un_neg pe_int)
  refine wpAny_Slice (thn (po_none.run pins s1 σ H1 (fun o H2 => o = none ∧ H2 = H1) I1 ⟨rfl, rfl⟩) fun vl s2 ⟨l, H2, I2, pl, el, e2⟩ => ?_)
  subst el e2
  refine thn (po_none.run pins s2 σ H2 (fun o H3 => o = none ∧ H3 = H2) I2 ⟨rfl, rfl⟩) fun vu s3 ⟨u, H3, I3, pu, eu, e3⟩ => ?_
  subst eu e3
  refine thn (hst.run pins s3 σ H3 (fun o H4 => o = some (-1) ∧ H4 = H3) I3 ⟨1, rfl, -1, rfl, rfl, rfl⟩) fun vs s4 ⟨o, H4, I4, ps, eo, e4⟩ => ?_
  subst eo e4
  have I5 : Inv X pins σ H4 { s4 with heap := s4.heap.push { cls := .type "slice", data := .fields #[vl, vu, vs] } } := I4.kept (t' := s4.toks) fun b ob q => Heap.get?_push_of_some _ q
  show wpAny (model X.prog X.w) X.A (PyProof.Rows.subscriptTail e (.Slice none none (some (.UnaryOp .USub (.Constant (.int 1) k p1) p2)) p3) (.ref a) (.ref s4.heap.objs.size)) (EP X pins σ Q) X.xe { s4 with heap := s4.heap.push { cls := .type "slice", data := .fields #[vl, vu, vs] } }
  rcases q with ⟨hx, q⟩ | ⟨hx, q⟩
  · obtain ⟨its, r, ht, hz⟩ := I5.list hx
    have hlen := r.length
    refine PyProof.Rows.tail_any (ops := [.ref a, .ref s4.heap.objs.size]) ht.isList.typeIs (PySem.slot_list_getitem.lookup) ?_ (by with_unfolding_all rfl)
    refine wpAny_getItem_list_slice ht.isList (Heap.IsSliceOf.new _ vl vu vs) pl pu ps (by decide) ?_ (by rw [List.size_toArray]; omega)
    rw [PySem.W.krv_pick]
    refine ⟨.ref _, _, I5.laid (t' := s4.toks) (o := .lst xs.reverse) (fun b ob q => Heap.get?_push_of_some _ q) (Nat.le_refl _) ?_, rfl, q _ (I5.hok.fresh (Nat.le_refl _))⟩
    exact ⟨by rw [List.length_reverse]; exact hz, _, 0, r.reverse, Heap.get?_push_size _ rfl⟩
  · obtain ⟨its, r, ht, hz⟩ := I5.tuple hx
    have hlen := r.length
    refine PyProof.Rows.tail_any (ops := [.ref a, .ref s4.heap.objs.size]) ht.typeIs (PyProof.Rows.slot_tuple_getitem.lookup) ?_ (by with_unfolding_all rfl)
    cases pl
    cases pu
    refine getItem_tuple_rev ht (Heap.IsSliceOf.new _ .none .none vs) ps ?_ (by rw [List.size_toArray]; omega)
    refine ⟨.ref _, _, I5.laid (t' := s4.toks) (o := .tup xs.reverse) (fun b ob q => Heap.get?_push_of_some _ q) (Nat.le_refl _) ?_, rfl, q _ (I5.hok.fresh (Nat.le_refl _))⟩
    exact ⟨by rw [List.length_reverse]; exact hz, _, r.reverse, PyProof.Rows.IsTup.new _ _⟩
theorem pem_rev {a : Expr} {k : Nat} {p1 p2 p3 pos : Pos} {ma : M Opd} (ha : PEm X Ex a ma) : PEm X Ex (.Subscript a (.Slice none none (some (.UnaryOp .USub (.Constant (.int 1) k p1) p2)) p3) pos) (M.bind ma revO) := by
  refine pe_weak (pe_rev ha) fun σ H Q ⟨ι, s, R, q⟩ => ?_
  refine tE_mono (ev_next (.refl R) q) fun v1 H1 ⟨ι1, s1, o1, P1, _, k1, _, q1⟩ => ?_
  unfold revO at q1
  split at q1
  · cases (show Rep _ _ _ _ _ from k1) with
    | tup h r => exact ⟨_, _, rfl, .inr ⟨h, fun p hp => fin_tup P1 hp r.reverse q1⟩⟩
  · split at q1
    · rename_i ds eds
      obtain ⟨a, vs, rfl, hq, r⟩ := lst_ok P1.rel k1 eds
      exact ⟨_, _, rfl, .inl ⟨hq, fun p hp => fin_lst P1 hp r.reverse q1⟩⟩
    · exact q1.elim
/-! ### calls -/
theorem pem_bi {x : Str} {p pos : Pos} {e : Expr} {es : List Expr} {b : BI} {ms : List Mean} (hc : X.calm = true) (hu : X.A.units + 65 < cLine) (hg : Gl X x) (hm : X.mg x = none) (hv : bootBuiltins x = some (bnOf b)) (ha : PAo X Ex (e :: es) (mOs ms)) (hn : x ≠ "__name__") (hdb : (x == ("__debug__" : Str)) = false)
    (he : starEach (e :: es) X.env = (false, eval e X.env) :: starEach es X.env) (hpl : (backTo pos (starEach es X.env)).any (·.1) = false) : PEm X Ex (.Call (.Name x p) (e :: es) [] pos) (M.bind (mOs ms) fun os => bi b os) := by
  have h : PE X (.Call (.Name x p) (e :: es) [] pos) (tCB (rB X.K Ex b) (tO X.K Ex (mOs ms))) := by
    have hb := bi_ok (Ex := Ex) hc hu b
    cases b <;> first
      | exact pe_callB hb hg hm hv ha hn hdb he hpl
      | exact pe_callTy hb hg hm hv ha hn hdb he hpl
  refine pe_weak h fun σ H Q ⟨ι, s, R, q⟩ => ?_
  obtain ⟨ι', s', R', q'⟩ := tO_next (.refl R) q
  refine ⟨ι', s', R', q'.imp fun os s2 b ι2 vs H2 P2 k2 => ?_⟩
  obtain ⟨ι3, s3, os3, P3, _, k3, q3⟩ := b ι2 vs H2 P2 k2
  exact ⟨ι, s, σ, H, ι3, s3, os3, P3, k3, q3⟩
def isTyE : Ty → V
  | t => .ty (tyName t)
theorem isi_end {ι ι1 : List Addr} {s s1 : St} {σ : L2.St} {H H1 : Hp} {Q : VK} {ts : List Ty} {o : Opd} {v : V} (P : Post X.K ι s σ H ι1 s1 H1) (k : OpdOk X.K H1 ι1 s1 σ v o) (q : OutG X.K ι s σ H Ex (BQ X.K ι s σ H Q) (isi ts o s1)) :
    ∃ t, TyX X.K H1 v (.type (tyName t)) ∧ Q (.bl (ts.any t.below)) H1 := by
  unfold isi at q
  split at q
  · rename_i t et
    exact ⟨t, ty_ok P.rel k et, fin_val P (.bl _) q⟩
  · exact q.elim
/-- isinstance(a, T) -/
theorem pem_isi1 {x y : Str} {p p2 pos : Pos} {a : Expr} {ma : M Opd} {t : Ty} (hg : Gl X x) (hm : X.mg x = none) (ex : x = "isinstance") (hg2 : Gl X y) (hm2 : X.mg y = none) (hv2 : bootBuiltins y = some (.type (tyName t))) (ht : t ≠ .non) (ha : PEm X Ex a ma)
    (hn2 : y ≠ "__name__") (hd2 : (y == ("__debug__" : Str)) = false) (hsa : starEach [a, .Name y p2] X.env = (false, eval a X.env) :: starEach [.Name y p2] X.env) : PEm X Ex (.Call (.Name x p) [a, .Name y p2] [] pos) (M.bind ma fun o => isi [t] o) := by
  subst ex
  have hy : PE X (.Name y p2) (tC (.ty (tyName t))) := pe_bltn hg2 hm2 hv2 rfl hn2 hd2
  have hargs : PA X [a, .Name y p2] (tCons (tE X.K Ex ma) (tCons (tC (.ty (tyName t))) tNil)) := pa_cons ha (pa_cons hy pa_nil rfl) hsa
  refine pe_weak (pe_callB call_isi hg hm PyProof.Rows.boot_isinstance hargs (by decide) (by decide) hsa rfl) fun σ H Q ⟨ι, s, R, q⟩ => ?_
  refine tE_mono (ev_next (.refl R) q) fun v1 H1 ⟨ι1, s1, o1, P1, _, k1, _, q1⟩ => ?_
  obtain ⟨t', ty, q2⟩ := isi_end P1 k1 q1
  refine ⟨_, _, _, _, _, rfl, .ty _, ty, kit_ty (kit_all t' t ht), ?_⟩
  simpa using q2
end
end Y

/-! Y8: methods, walks, comprehensions. -/
set_option linter.all false
set_option maxRecDepth 100000
set_option Elab.async false
set_option autoImplicit false
set_option maxHeartbeats 1000000
namespace Y
open PySem PySem.Spec L2
section
variable {X : Cx} {Ex : ExP}
/-! ### isinstance(a, (T, ..)) -/
/-- names of types, as values -/
def PTys (X : Cx) (es : List Expr) (ts : List Ty) : Prop := PA X es (fun _ H Q => Q (ts.map fun t => .ty (tyName t)) H)
theorem ptys_nil : PTys X [] [] := pa_weak pa_nil fun _ _ _ q => q
theorem ptys_cons {y : Str} {p2 : Pos} {es : List Expr} {t : Ty} {ts : List Ty} (hg2 : Gl X y) (hm2 : X.mg y = none) (hv2 : bootBuiltins y = some (.type (tyName t))) (hn2 : y ≠ "__name__") (hd2 : (y == ("__debug__" : Str)) = false) (h : PTys X es ts) : PTys X (.Name y p2 :: es) (t :: ts) :=
  pa_weak (pa_cons (pe_bltn hg2 hm2 hv2 (v := .ty (tyName t)) rfl hn2 hd2) h rfl) fun _ _ _ q => q
theorem clsv_all : ∀ ts : List Ty, Paired ClsV (ts.map fun t => .ty (tyName t)) (ts.map fun t => .type (tyName t))
  | [] => .nil
  | t :: ts => .cons (.ty _) (clsv_all ts)
theorem tyx_more {K : Frag} {H H' : Hp} {x : V} {t : Value} (h : TyX K H x t) (le : ∀ a o, H a = some o → H' a = some o) : TyX K H' x t := by
  cases h with
  | base b =>
    cases b with
    | non => exact .base .non
    | bl y => exact .base (.bl y)
    | int i => exact .base (.int i)
    | str y => exact .base (.str y)
    | flt y => exact .base (.flt y)
    | lst e => exact .base (.lst (le _ _ e))
    | frz e => exact .base (.frz (le _ _ e))
    | tup e => exact .base (.tup (le _ _ e))
    | dK e => exact .base (.dK (le _ _ e))
    | dT e => exact .base (.dT (le _ _ e))
    | ins e c h1 h2 h3 h4 => exact .base (.ins (le _ _ e) c h1 h2 h3 h4)
  | byt b => exact .byt b
  | set e => exact .set (le _ _ e)
  | kList e c => exact .kList e c
  | kTuple e c => exact .kTuple e c
  | kDict e c => exact .kDict e c
  | fTuple e => exact .fTuple (le _ _ e)
  | fDict e => exact .fDict (le _ _ e)
theorem pem_isiT {x : Str} {p p2 pos : Pos} {k : Nat} {a : Expr} {es : List Expr} {ma : M Opd} {ts : List Ty} (hg : Gl X x) (hm : X.mg x = none) (ex : x = "isinstance") (hts : PTys X es ts) (ht : ∀ t ∈ ts, t ≠ .non) (hz : ts.length ≤ 1000) (ha : PEm X Ex a ma)
    (hsa : starEach [a, .Tuple es k p2] X.env = (false, eval a X.env) :: starEach [.Tuple es k p2] X.env) : PEm X Ex (.Call (.Name x p) [a, .Tuple es k p2] [] pos) (M.bind ma fun o => isi ts o) := by
  subst ex
  have hargs := pa_cons ha (pa_cons (pe_tup hts) pa_nil rfl) hsa
  refine pe_weak (pe_callB call_isiT hg hm PyProof.Rows.boot_isinstance hargs (by decide) (by decide) hsa rfl) fun σ H Q ⟨ι, s, R, q⟩ => ?_
  refine tE_mono (ev_next (.refl R) q) fun v1 H1 ⟨ι1, s1, o1, P1, _, k1, _, q1⟩ => ?_
  have hl : (1000 : Nat) ≤ sizeLine := by rw [sizeLine_eq]; decide
  refine ⟨by rw [List.length_map]; omega, fun q hq => ?_⟩
  unfold isi at q1
  split at q1
  · rename_i t et
    have P2 := P1.trans (Post.more P1.rel (le_upd (o := .tup (ts.map fun t => .ty (tyName t))) hq))
    exact ⟨_, _, _, _, _, _, rfl, upd_same, clsv_all ts, tyx_more (ty_ok P1.rel k1 et) (le_upd hq), kitAny_all t ts ht, q1 ι1 _ _ P2 (.bl _) trivial⟩
  · exact q1.elim
/-! ### methods of lists -/
theorem metOk_next {K : Frag} {ι ι1 : List Addr} {s s1 : St} {σ : L2.St} {H H1 : Hp} {β : Type} {m : Me} {o : Opd} {v : V} (hml : m.isL = true) (P : Post K ι s σ H ι1 s1 H1) (k : OpdOk K H1 ι1 s1 σ v o) {g : Unit → M β} {B : β → St → Prop}
    (h : OutG K ι s σ H Ex B (M.bind (metOk m o) g s1)) : tyV K "list" v H1 ∧ OutG K ι s σ H Ex B (g () s1) := by
  unfold M.bind metOk at h
  rw [if_pos hml] at h
  by_cases e : (lstOf o s1).isSome = true
  · rw [if_pos e] at h
    obtain ⟨ds, eds⟩ := Option.isSome_iff_exists.mp e
    obtain ⟨a, vs, rfl, hq, _⟩ := lst_ok P.rel k eds
    exact ⟨.inl ⟨rfl, vs, hq⟩, h⟩
  · rw [if_neg e] at h; exact h.elim
theorem meth_next {K : Frag} {m : Me} (hml : m.isL = true) {mo : M Opd} {ms : List Mean} {σ : L2.St} {H : Hp} {Q : VK} (h : tE K Ex (M.bind mo fun x => M.bind (metOk m x) fun _ => M.bind (mDs ms) fun ds => meth m x ds) σ H Q) :
    tBM K "list" (rM K Ex m) (tE K Ex mo) (tD K Ex (mDs ms)) σ H Q := by
  obtain ⟨ι, s, R, q⟩ := h
  refine tE_mono (ev_next (.refl R) q) fun v1 H1 ⟨ι1, s1, o1, P1, _, k1, _, q1⟩ => ?_
  obtain ⟨ty, q2⟩ := metOk_next hml P1 k1 q1
  refine ⟨ty, ?_⟩
  obtain ⟨ι', s', R', q'⟩ := tD_next P1 q2
  refine ⟨ι', s', R', q'.imp fun ds s2 b ι2 vs H2 P2 k2 => ?_⟩
  obtain ⟨ι3, s3, ds3, P3, P13, k3, q3⟩ := b ι2 vs H2 P2 k2
  exact ⟨ι, s, σ, H, ι3, s3, o1, ds3, P3, k1.stp P1.rel P13.stp, k3, q3⟩
theorem meth_next0 {K : Frag} {m : Me} (hml : m.isL = true) {mo : M Opd} {σ : L2.St} {H : Hp} {Q : VK} (h : tE K Ex (M.bind mo fun x => M.bind (metOk m x) fun _ => M.bind (mDs []) fun ds => meth m x ds) σ H Q) :
    tBM0 K "list" (rM K Ex m) (tE K Ex mo) σ H Q := by
  obtain ⟨ι, s, R, q⟩ := h
  refine tE_mono (ev_next (.refl R) q) fun v1 H1 ⟨ι1, s1, o1, P1, _, k1, _, q1⟩ => ?_
  obtain ⟨ty, q2⟩ := metOk_next hml P1 k1 q1
  exact ⟨ty, ι, s, σ, H, ι1, s1, o1, [], P1, k1, .nil, q2⟩
variable {o e : Expr} {es : List Expr} {apos cpos : Pos} {mo : M Opd} {ms : List Mean}
theorem pem_append (ho : PEm X Ex o mo) (ha : PAd X Ex (e :: es) (mDs ms))
    (hbase : attributeBase o "append" X.env (eval o X.env) = eval o X.env)
    (hfew : ((backTo cpos (starEach (e :: es) X.env)).all (fun x => !x.1) && (backToKw cpos (keywordEach [] X.env)).all (fun x => x.1.isSome)
      && decide ((e :: es).length + ([] : List Keyword).length + (if ([] : List Keyword).isEmpty then 0 else 1) < 30)) = true)
    (hline : (apos.endLine == cpos.line) = true) (hs : starEach (e :: es) X.env = (false, eval e X.env) :: starEach es X.env) (hplain : (backTo cpos (starEach es X.env)).any (·.1) = false) :
    PEm X Ex (.Call (.Attribute o "append" apos) (e :: es) [] cpos) (M.bind mo fun x => M.bind (metOk .append x) fun _ => M.bind (mDs ms) fun ds => meth .append x ds) :=
  pe_weak (pe_bm PySem.F.plainAttrs_list PySem.F.slot_list_append PySem.F.type_list_append (meth_ok (Ex := Ex) .append) ho ha hbase hfew hline hs hplain) fun σ H Q h => meth_next rfl h
theorem pem_extend (ho : PEm X Ex o mo) (ha : PAd X Ex (e :: es) (mDs ms))
    (hbase : attributeBase o "extend" X.env (eval o X.env) = eval o X.env)
    (hfew : ((backTo cpos (starEach (e :: es) X.env)).all (fun x => !x.1) && (backToKw cpos (keywordEach [] X.env)).all (fun x => x.1.isSome)
      && decide ((e :: es).length + ([] : List Keyword).length + (if ([] : List Keyword).isEmpty then 0 else 1) < 30)) = true)
    (hline : (apos.endLine == cpos.line) = true) (hs : starEach (e :: es) X.env = (false, eval e X.env) :: starEach es X.env) (hplain : (backTo cpos (starEach es X.env)).any (·.1) = false) :
    PEm X Ex (.Call (.Attribute o "extend" apos) (e :: es) [] cpos) (M.bind mo fun x => M.bind (metOk .extend x) fun _ => M.bind (mDs ms) fun ds => meth .extend x ds) :=
  pe_weak (pe_bm PySem.F.plainAttrs_list PySem.F.slot_list_extend PySem.F.type_list_extend (meth_ok (Ex := Ex) .extend) ho ha hbase hfew hline hs hplain) fun σ H Q h => meth_next rfl h
theorem pem_insert (ho : PEm X Ex o mo) (ha : PAd X Ex (e :: es) (mDs ms))
    (hbase : attributeBase o "insert" X.env (eval o X.env) = eval o X.env)
    (hfew : ((backTo cpos (starEach (e :: es) X.env)).all (fun x => !x.1) && (backToKw cpos (keywordEach [] X.env)).all (fun x => x.1.isSome)
      && decide ((e :: es).length + ([] : List Keyword).length + (if ([] : List Keyword).isEmpty then 0 else 1) < 30)) = true)
    (hline : (apos.endLine == cpos.line) = true) (hs : starEach (e :: es) X.env = (false, eval e X.env) :: starEach es X.env) (hplain : (backTo cpos (starEach es X.env)).any (·.1) = false) :
    PEm X Ex (.Call (.Attribute o "insert" apos) (e :: es) [] cpos) (M.bind mo fun x => M.bind (metOk .insert x) fun _ => M.bind (mDs ms) fun ds => meth .insert x ds) :=
  pe_weak (pe_bm PySem.F.plainAttrs_list PySem.F.slot_list_insert PySem.F.type_list_insert (meth_ok (Ex := Ex) .insert) ho ha hbase hfew hline hs hplain) fun σ H Q h => meth_next rfl h
theorem pem_pop (ho : PEm X Ex o mo) (ha : PAd X Ex (e :: es) (mDs ms))
    (hbase : attributeBase o "pop" X.env (eval o X.env) = eval o X.env)
    (hfew : ((backTo cpos (starEach (e :: es) X.env)).all (fun x => !x.1) && (backToKw cpos (keywordEach [] X.env)).all (fun x => x.1.isSome)
      && decide ((e :: es).length + ([] : List Keyword).length + (if ([] : List Keyword).isEmpty then 0 else 1) < 30)) = true)
    (hline : (apos.endLine == cpos.line) = true) (hs : starEach (e :: es) X.env = (false, eval e X.env) :: starEach es X.env) (hplain : (backTo cpos (starEach es X.env)).any (·.1) = false) :
    PEm X Ex (.Call (.Attribute o "pop" apos) (e :: es) [] cpos) (M.bind mo fun x => M.bind (metOk .pop x) fun _ => M.bind (mDs ms) fun ds => meth .pop x ds) :=
  pe_weak (pe_bm PySem.F.plainAttrs_list PySem.F.slot_list_pop PySem.F.type_list_pop (meth_ok (Ex := Ex) .pop) ho ha hbase hfew hline hs hplain) fun σ H Q h => meth_next rfl h
theorem pem_pop0 (ho : PEm X Ex o mo) (hbase : attributeBase o "pop" X.env (eval o X.env) = eval o X.env) (hline : (apos.endLine == cpos.line) = true) :
    PEm X Ex (.Call (.Attribute o "pop" apos) [] [] cpos) (M.bind mo fun x => M.bind (metOk .pop x) fun _ => M.bind (mDs []) fun ds => meth .pop x ds) :=
  pe_weak (pe_bm0 PySem.F.plainAttrs_list PySem.F.slot_list_pop PySem.F.type_list_pop (meth_ok (Ex := Ex) .pop) ho hbase hline) fun σ H Q h => meth_next0 rfl h
/-! ### walks -/
structure JOk (K : Frag) (w : Walk) (J : It) (ι : List Addr) (s : St) (σ : L2.St) (H : Hp) : Prop where
  ex : ∃ v, (∀ o xs, w.live = some (o, xs) → OpdOk K H ι s σ v o) ∧ ∀ {ι2 s2 σ2 H2}, Keeps ι H ι2 H2 → Rel K ι2 s2 σ2 H2 → (∀ o xs, w.live = some (o, xs) → ∃ o2, OpdOk K H2 ι2 s2 σ2 v o2 ∧ lstOf o2 s2 = some xs) →
    (∀ (i : Nat) (d : D), w.ds[i]? = some d → J.go i H2 ∧ ∀ x H3, J.yld i H2 x H3 → (∀ a o, H2 a = some o → H3 a = some o) ∧ Rep K H3 ι2 x d) ∧ J.stop w.ds.length H2
def BW (K : Frag) (ι : List Addr) (s : St) (σ : L2.St) (H : Hp) (R : It → Hp → Prop) : Walk → St → Prop := fun w s' => ∀ ι' H' J, Post K ι s σ H ι' s' H' → JOk K w J ι' s' σ H' → R J H'
def tI (K : Frag) (Ex : ExP) (m : M Walk) : TI := fun σ H R => ∃ ι s, Rel K ι s σ H ∧ OutG K ι s σ H Ex (BW K ι s σ H R) (m s)
abbrev PIm (X : Cx) (Ex : ExP) (tg e : Expr) (m : M Walk) : Prop := PI X tg e (tI X.K Ex m)
theorem pi_weak {tg e : Expr} {t t' : TI} (h : PI X tg e t) (w : ∀ σ H Q, t' σ H Q → t σ H Q) : PI X tg e t' := ⟨fun pins s σ H Q I q => h.run pins s σ H Q I (w σ H Q q)⟩
theorem same_live {w : Walk} {o : Opd} {xs : List D} {s : St} (e : w.live = some (o, xs)) (h : w.same s = true) : lstOf o s = some xs := by
  unfold Walk.same at h
  rw [e] at h
  exact @of_decide_eq_true _ (Classical.propDecidable _) h
/-- a live list's operand, later -/
theorem live_later {K : Frag} {ι ι2 : List Addr} {s s2 : St} {σ σ2 : L2.St} {H H2 : Hp} {v : V} {o : Opd} (R : Rel K ι s σ H) (k : OpdOk K H ι s σ v o) (a : Stp ι s σ H ι2 s2 σ2 H2) (h : ∀ i, o = .own i → σ2[i]? = σ[i]?) : OpdOk K H2 ι2 s2 σ2 v o := by
  cases o with
  | val d => exact Rep.keep (a.keeps R) k
  | own i => exact (h i rfl).trans k
  | tmp n =>
    obtain ⟨c, rfl, h, l⟩ := k
    exact ⟨c, rfl, NodeOk.stp R a h l⟩
theorem JOk.now {K : Frag} {w : Walk} {J : It} {ι ι2 : List Addr} {s s2 : St} {σ σ2 : L2.St} {H H2 : Hp} (h : JOk K w J ι s σ H) (R : Rel K ι s σ H) (S : Stp ι s σ H ι2 s2 σ2 H2) (R2 : Rel K ι2 s2 σ2 H2) (h1 : ∀ i xs, w.live = some (.own i, xs) → σ2[i]? = σ[i]?) (h2 : w.same s2 = true) :
    (∀ (i : Nat) (d : D), w.ds[i]? = some d → J.go i H2 ∧ ∀ x H3, J.yld i H2 x H3 → (∀ a o, H2 a = some o → H3 a = some o) ∧ Rep K H3 ι2 x d) ∧ J.stop w.ds.length H2 := by
  obtain ⟨v, hv, go⟩ := h.ex
  exact go (S.keeps R) R2 fun o xs eo => ⟨o, live_later R (hv o xs eo) S fun i e => h1 i xs (e ▸ eo), same_live eo h2⟩
theorem JOk.go {K : Frag} {w : Walk} {J : It} {ι ι2 : List Addr} {s s2 : St} {σ σ2 : L2.St} {H H2 : Hp} (h : JOk K w J ι s σ H) (R : Rel K ι s σ H) (S : Stp ι s σ H ι2 s2 σ2 H2) (R2 : Rel K ι2 s2 σ2 H2) (h1 : ∀ i xs, w.live = some (.own i, xs) → σ2[i]? = σ[i]?) (h2 : w.same s2 = true) (i : Nat) (d : D) (e : w.ds[i]? = some d) :
    J.go i H2 ∧ ∀ x H3, J.yld i H2 x H3 → (∀ a o, H2 a = some o → H3 a = some o) ∧ Rep K H3 ι2 x d := (h.now R S R2 h1 h2).1 i d e
theorem JOk.stop {K : Frag} {w : Walk} {J : It} {ι ι2 : List Addr} {s s2 : St} {σ σ2 : L2.St} {H H2 : Hp} (h : JOk K w J ι s σ H) (R : Rel K ι s σ H) (S : Stp ι s σ H ι2 s2 σ2 H2) (R2 : Rel K ι2 s2 σ2 H2) (h1 : ∀ i xs, w.live = some (.own i, xs) → σ2[i]? = σ[i]?) (h2 : w.same s2 = true) :
    J.stop w.ds.length H2 := (h.now R S R2 h1 h2).2
theorem jok_list {K : Frag} {ι : List Addr} {s : St} {σ : L2.St} {H : Hp} {a : Addr} {o : Opd} {ds : List D} (R : Rel K ι s σ H) (k : OpdOk K H ι s σ (.ref a) o) : JOk K ⟨ds, some (o, ds)⟩ (Itl K a) ι s σ H := by
  refine ⟨.ref a, fun o' xs e => by cases e; exact k, fun {ι2 s2 σ2 H2} S R2 h => ?_⟩
  obtain ⟨o2, k2, e2⟩ := h o ds rfl
  obtain ⟨b, vs, eb, hq, r⟩ := lst_ok R2 k2 e2
  cases eb
  refine ⟨fun i d ed => ?_, vs, hq, Nat.le_of_eq r.length⟩
  obtain ⟨w, hw, rw'⟩ := r.get ed
  refine ⟨⟨vs, w, hq, hw⟩, fun x H3 y => ?_⟩
  obtain ⟨rfl, y⟩ := y
  have := y vs hq
  rw [hw] at this
  cases this
  exact ⟨fun _ _ e => e, rw'⟩
theorem jok_tup {K : Frag} {ι : List Addr} {s : St} {σ : L2.St} {H : Hp} {a : Addr} {vs : List V} {ds : List D} (R : Rel K ι s σ H) (hq : SqT K H a vs) (r : Reps K H ι vs ds) : JOk K ⟨ds, none⟩ (Itt K a) ι s σ H := by
  refine ⟨.non, (fun o xs e => by cases e), fun {ι2 s2 σ2 H2} kp R2 h => ⟨fun i d ed => ?_, vs, kp.sqT hq, Nat.le_of_eq r.length⟩⟩
  obtain ⟨w, hw, rw'⟩ := (r.keep kp).get ed
  refine ⟨⟨vs, w, kp.sqT hq, hw⟩, fun x H3 y => ?_⟩
  obtain ⟨rfl, y⟩ := y
  have := y vs (kp.sqT hq)
  rw [hw] at this
  cases this
  exact ⟨fun _ _ e => e, rw'⟩
theorem jok_str {K : Frag} {ι : List Addr} {s : St} {σ : L2.St} {H : Hp} {x : Str} (R : Rel K ι s σ H) : JOk K ⟨x.cps.toList.map fun c => .str ⟨#[c]⟩, none⟩ (Its x) ι s σ H := by
  refine ⟨.non, (fun o xs e => by cases e), fun {ι2 s2 σ2 H2} S R2 h => ⟨fun i d ed => ?_, ?_⟩⟩
  · simp only [List.getElem?_map, Array.getElem?_toList] at ed
    obtain ⟨c, ec, rfl⟩ := Option.map_eq_some_iff.mp ed
    refine ⟨(Array.getElem?_eq_some_iff.mp ec).1, fun y H3 z => ?_⟩
    obtain ⟨rfl, c', ec', rfl⟩ := z
    rw [ec] at ec'
    cases ec'
    exact ⟨fun _ _ e => e, .str _⟩
  · show x.cps.size ≤ _
    simp
theorem iter_str {tg : Expr} {pins : List (Addr × Obj)} {σ : L2.St} {H : Hp} {s1 : Shared} {R : It → Hp → Prop} {x : Str} {t : Tok} (I1 : Inv X pins σ H s1) (J : R (Its x) H) : wpAny (model X.prog X.w) X.A (pyIter (.str x t)) (PIE X pins σ tg R) X.xe s1 := by
  cases ha : x.cps.all (· < 128)
  · exact wpAny_pyIter_wide ha (pi_one (tk := s1.toks) I1 _ (turn_str _ x t "str_iterator" (.inr rfl)) ⟨_, Heap.get?_push_size _ rfl, rfl, rfl⟩ J)
  · exact wpAny_pyIter_ascii ha (pi_one (tk := s1.toks) I1 _ (turn_str _ x t "str_ascii_iterator" (.inl rfl)) ⟨_, Heap.get?_push_size _ rfl, rfl, rfl⟩ J)
theorem pim_of {tg e : Expr} {m : M Opd} (he : PEm X Ex e m) : PIm X Ex tg e (M.bind m walkO) := by
  refine ⟨fun pins sh σ H R I ⟨ι, s, Rl, q⟩ => ?_⟩
  refine thn (he.run pins sh σ H _ I (ev_next (.refl Rl) q)) fun v s1 ⟨x, H1, I1, r1, ι1, s2, o, P, _, k, _, q1⟩ => ?_
  unfold walkO at q1
  split at q1
  · cases (show Rep _ _ _ _ _ from k) with
    | tup hq r =>
      cases r1
      obtain ⟨its, rv, p, hz⟩ := I1.tuple hq
      refine wpAny_pyIter_tuple (show s1.heap.IsTuple _ its.toArray from p) ?_
      refine ⟨s1.heap.objs.size, [s1.heap.objs.size], _, _, H1, rfl, I1.kept (t' := s1.toks) fun b o e => Heap.get?_push_of_some _ e, turn_tuple _ _, ⟨_, Heap.get?_push_size _ rfl, rfl, rfl⟩, fun b hb => ?_, ?_⟩
      · have e : b = s1.heap.objs.size := by simpa using hb
        subst e
        exact I1.fpOk (Nat.le_refl _) (I1.hok.fresh (Nat.le_refl _))
      · exact q1 ι1 H1 _ P (jok_tup P.rel hq r)
  · cases (show Rep _ _ _ _ _ from k)
    obtain ⟨t, rfl⟩ := r1
    exact iter_str I1 (q1 ι1 H1 _ P (jok_str P.rel))
  · split at q1
    · rename_i ds eds
      obtain ⟨a, vs, rfl, hq, r⟩ := lst_ok P.rel k eds
      cases r1
      obtain ⟨its, rv, p, hz⟩ := I1.list hq
      refine wpAny_pyIter_list p.isList ?_
      refine ⟨s1.heap.objs.size, [s1.heap.objs.size], _, _, H1, rfl, I1.kept (t' := s1.toks) fun b o e => Heap.get?_push_of_some _ e, turn_list a _, ⟨_, Heap.get?_push_size _ rfl, rfl, rfl⟩, fun b hb => ?_, ?_⟩
      · have e : b = s1.heap.objs.size := by simpa using hb
        subst e
        exact I1.fpOk (Nat.le_refl _) (I1.hok.fresh (Nat.le_refl _))
      · exact q1 ι1 H1 _ P (jok_list P.rel k)
    · exact q1.elim
end
end Y

/-! Y9: targets, comprehensions. -/
set_option linter.all false
set_option maxRecDepth 100000
set_option Elab.async false
set_option autoImplicit false
set_option maxHeartbeats 1000000
namespace Y
open PySem PySem.Spec L2
section
variable {K : Frag} {ι : List Addr} {s : St} {σ : L2.St} {H : Hp}
/-- fewer hold, at the same addresses -/
theorem Stp.less {s' : St} {σ' : L2.St} (hp : s'.hp = s.hp) (h : ∀ x a n, At ι s' σ' x a n → n.mut = true → ¬ Loose ι s σ a) : Stp ι s σ H ι s' σ' H :=
  ⟨⟨[], by simp⟩, fun _ _ e _ => e, fun x a n hx m => .inl (h x a n hx m), fun _ o e => ⟨o, e⟩, fun l n e m => ⟨n, by rw [hp]; exact e, m⟩⟩
theorem Rel.setVal (R : Rel K ι s σ H) {i : Nat} {v : V} {d : D} (hi : i < s.sl.length) (r : Rep K H ι v d) :
    Rel K ι { s with sl := s.sl.set i (.val d) } (σ.set i (some v)) H ∧ Stp ι s σ H ι { s with sl := s.sl.set i (.val d) } (σ.set i (some v)) H := by
  have hiσ : i < σ.length := by rw [← R.slen]; exact hi
  have old : ∀ {x a n}, At ι { s with sl := s.sl.set i (.val d) } (σ.set i (some v)) x a n → At ι s σ x a n := fun {x a n} h => by
    cases h with
    | cell h1 h2 => exact .cell h1 h2
    | slot h1 h2 =>
      rename_i j
      have h1 : (s.sl.set i (.val d))[j]? = some (.own n) := h1
      by_cases e : i = j
      · subst e; rw [List.getElem?_set_self hi] at h1; cases h1
      · rw [List.getElem?_set_ne e] at h1 h2
        exact .slot h1 h2
  refine ⟨⟨R.hlen, by simp [R.slen], fun x a n h => R.ok x a n (old h), fun j d' e => ?_, fun j n e => ?_, fun x y a n n' h h' => R.uniq x y a n n' (old h) (old h')⟩, .less rfl fun x a n h m l => by rw [l _ _ (old h)] at m; cases m⟩
  · have e : (s.sl.set i (.val d))[j]? = some (.val d') := e
    by_cases eij : i = j
    · subst eij
      rw [List.getElem?_set_self hi] at e
      cases e
      exact ⟨v, List.getElem?_set_self hiσ, r⟩
    · rw [List.getElem?_set_ne eij] at e
      obtain ⟨w, h1, h2⟩ := R.slot j d' e
      exact ⟨w, by rw [List.getElem?_set_ne eij]; exact h1, h2⟩
  · have e : (s.sl.set i (.val d))[j]? = some (.own n) := e
    by_cases eij : i = j
    · subst eij; rw [List.getElem?_set_self hi] at e; cases e
    · rw [List.getElem?_set_ne eij] at e
      obtain ⟨a, h1⟩ := R.own j n e
      exact ⟨a, by rw [List.getElem?_set_ne eij]; exact h1⟩
mutual
def Tg.slots : Tg → List Nat
  | .name i => [i]
  | .tup ts => Tg.slotss ts
def Tg.slotss : List Tg → List Nat
  | [] => []
  | t :: ts => Tg.slots t ++ Tg.slotss ts
end
/-- behind a store -/
def GPost (K : Frag) (ι : List Addr) (s : St) (σ : L2.St) (H : Hp) (own : List Nat) (Q : L2.St → Hp → Prop) : Res Unit → Prop
  | .ok _ s' => ∀ ι' σ' H', Stp ι s σ H ι' s' σ' H' → Rel K ι' s' σ' H' → (∀ j, j ∉ own → σ'[j]? = σ[j]?) → σ'.length = σ.length → Q σ' H'
  | _ => False
def tG (K : Frag) (t : Tg) : TG := fun v σ H Q => ∃ ι s d, Rel K ι s σ H ∧ Rep K H ι v d ∧ GPost K ι s σ H t.slots Q (t.put d s)
def tGs (K : Frag) (ts : List Tg) : TGs := fun vs σ H Q => ∃ ι s ds, Rel K ι s σ H ∧ Reps K H ι vs ds ∧ GPost K ι s σ H (Tg.slotss ts) Q (Tg.puts ts ds s)
end
section
variable {X : Cx} {Ex : ExP}
theorem pg_weak {tg : Expr} {t t' : TG} (h : PG X tg t) (w : ∀ v σ H Q, t' v σ H Q → t v σ H Q) : PG X tg t' := ⟨fun pins s σ H v u Q I r q => h.run pins s σ H v u Q I r (w v σ H Q q)⟩
theorem pgs_weak {tg : List Expr} {t t' : TGs} (h : PGs X tg t) (w : ∀ v σ H Q, t' v σ H Q → t v σ H Q) : PGs X tg t' := ⟨fun pins s σ H v u Q I r q => h.run pins s σ H v u Q I r (w v σ H Q q)⟩
theorem pgm_name {i : Nat} {x : Str} {pos : Pos} (hN : X.N.Nodup) (hi : X.N[i]? = some x) (hx : Loc X.env.scope x) (hf : X.fn x = true ∨ X.env.scope.names.lookup x = some .local) : PG X (.Name x pos) (tG X.K (.name i)) := by
  refine pg_weak (pg_name hN hi hx hf) fun v σ H Q ⟨ι, s, d, R, r, q⟩ => ?_
  simp only [Tg.put] at q
  split at q
  · rename_i hl
    obtain ⟨R2, S2⟩ := R.setVal hl r
    exact q ι _ H S2 R2 (fun j hj => List.getElem?_set_ne (fun e => hj (by simp [Tg.slots, e]))) (by simp)
  · exact q.elim
theorem pgsm_nil : PGs X [] (tGs X.K []) := by
  refine pgs_weak pgs_nil fun vs σ H Q ⟨ι, s, ds, R, r, q⟩ => ?_
  cases ds with
  | cons d ds => simp only [Tg.puts] at q; exact q.elim
  | nil =>
    cases r
    simp only [Tg.puts] at q
    exact ⟨rfl, q ι σ H .refl R (fun _ _ => rfl) rfl⟩
theorem pgsm_cons {e : Expr} {es : List Expr} {t : Tg} {ts : List Tg} (h1 : PG X e (tG X.K t)) (h2 : PGs X es (tGs X.K ts)) (hs : (assignEach (e :: es) X.env).map (·.2) = assign e X.env :: (assignEach es X.env).map (·.2)) : PGs X (e :: es) (tGs X.K (t :: ts)) := by
  refine pgs_weak (pgs_cons h1 h2 hs) fun vs σ H Q ⟨ι, s, ds, R, r, q⟩ => ?_
  cases ds with
  | nil => simp only [Tg.puts] at q; exact q.elim
  | cons d ds =>
    cases r with
    | cons r1 r2 =>
      refine ⟨_, _, rfl, ι, s, d, R, r1, ?_⟩
      have q : GPost X.K ι s σ H (Tg.slotss (t :: ts)) Q (M.bind (t.put d) (fun _ => Tg.puts ts ds) s) := by simp only [Tg.puts] at q; exact q
      unfold M.bind at q
      cases e1 : t.put d s with
      | ok z s1 =>
        rw [e1] at q
        intro ι1 σ1 H1 S1 R1 f1 l1
        refine ⟨ι1, s1, ds, R1, r2.keep (S1.keeps R), ?_⟩
        simp only at q
        cases e2 : Tg.puts ts ds s1 with
        | ok z2 s2 =>
          rw [e2] at q
          intro ι2 σ2 H2 S2 R2 f2 l2
          refine q ι2 σ2 H2 (S1.trans S2) R2 (fun j hj => ?_) (l2.trans l1)
          simp only [Tg.slotss, List.mem_append, not_or] at hj
          exact (f2 j hj.2).trans (f1 j hj.1)
        | exc x s2 => rw [e2] at q; exact q.elim
        | stuck => rw [e2] at q; exact q.elim
      | exc x s1 => rw [e1] at q; exact q.elim
      | stuck => rw [e1] at q; exact q.elim
theorem puts_len : ∀ {ts : List Tg} {ds : List D} {s : St} {s' : St} {z : Unit}, Tg.puts ts ds s = .ok z s' → ds.length = ts.length
  | [], [], _, _, _, _ => rfl
  | [], _ :: _, _, _, _, h => by simp [Tg.puts, stuckM] at h
  | _ :: _, [], _, _, _, h => by simp [Tg.puts, stuckM] at h
  | t :: ts, d :: ds, s, s', z, h => by
    have h : M.bind (t.put d) (fun _ => Tg.puts ts ds) s = .ok z s' := by simp only [Tg.puts] at h; exact h
    unfold M.bind at h
    cases e : t.put d s with
    | ok z1 s1 => rw [e] at h; rw [List.length_cons, List.length_cons, puts_len h]
    | exc x s1 => rw [e] at h; cases h
    | stuck => rw [e] at h; cases h
theorem pgm_tup {es : List Expr} {k : Nat} {pos : Pos} {ts : List Tg} (hc : X.calm = true) (h : PGs X es (tGs X.K ts)) (hn : (assignEach es X.env).length = ts.length) (hst : (assignEach es X.env).findIdx? (·.1) = none) : PG X (.Tuple es k pos) (tG X.K (.tup ts)) := by
  refine pg_weak (pg_tup (n := ts.length) hc h hn hst) fun v σ H Q ⟨ι, s, d, R, r, q⟩ => ?_
  cases d with
  | tup ds =>
    cases r with
    | tup hq rs =>
      have q : GPost X.K ι s σ H (Tg.slotss ts) Q (Tg.puts ts ds s) := by simpa only [Tg.put, Tg.slots] using q
      cases e : Tg.puts ts ds s with
      | ok z s' => exact ⟨_, _, rfl, hq, by rw [rs.length]; exact puts_len e, ι, s, ds, R, rs, q⟩
      | exc x s' => rw [e] at q; exact q.elim
      | stuck => rw [e] at q; exact q.elim
  | _ => simp only [Tg.put] at q; exact q.elim
/-! ### wiping -/
theorem wipe_len (own : List Nat) (sl : List Slot) : (wipe own sl).length = sl.length := by
  induction own with
  | nil => rfl
  | cons v vs ih => simp [wipe, ih]
theorem wipe_in {own : List Nat} {sl : List Slot} {i : Nat} (h : i ∈ own) (hl : i < sl.length) : (wipe own sl)[i]? = some .unset := by
  induction own with
  | nil => cases h
  | cons v vs ih =>
    unfold wipe
    by_cases e : v = i
    · subst e; exact List.getElem?_set_self (by rw [wipe_len]; exact hl)
    · rw [List.getElem?_set_ne e]
      exact ih ((List.mem_cons.mp h).resolve_left fun z => e z.symm)
theorem wipe_notin {own : List Nat} {sl : List Slot} {i : Nat} (h : i ∉ own) : (wipe own sl)[i]? = sl[i]? := by
  induction own with
  | nil => rfl
  | cons v vs ih =>
    unfold wipe
    rw [List.getElem?_set_ne (fun e => h (by simp [e]))]
    exact ih fun m => h (List.mem_cons_of_mem _ m)
theorem unwipe_len (own : List Nat) (old new : List Slot) : (unwipe own old new).length = new.length := by
  induction own with
  | nil => rfl
  | cons v vs ih => simp [unwipe, ih]
theorem unwipe_in {own : List Nat} {old new : List Slot} {i : Nat} (h : i ∈ own) (hl : i < new.length) : (unwipe own old new)[i]? = some (old.getD i .unset) := by
  induction own with
  | nil => cases h
  | cons v vs ih =>
    unfold unwipe
    by_cases e : v = i
    · subst e; exact List.getElem?_set_self (by rw [unwipe_len]; exact hl)
    · rw [List.getElem?_set_ne e]
      exact ih ((List.mem_cons.mp h).resolve_left fun z => e z.symm)
theorem unwipe_notin {own : List Nat} {old new : List Slot} {i : Nat} (h : i ∉ own) : (unwipe own old new)[i]? = new[i]? := by
  induction own with
  | nil => rfl
  | cons v vs ih =>
    unfold unwipe
    rw [List.getElem?_set_ne (fun e => h (by simp [e]))]
    exact ih fun m => h (List.mem_cons_of_mem _ m)
theorem lwipe_in {own : List Nat} {σ : L2.St} {i : Nat} (h : i ∈ own) (hl : i < σ.length) : (L2.wipe σ own)[i]? = some none := by
  induction own with
  | nil => cases h
  | cons v vs ih =>
    unfold L2.wipe
    by_cases e : v = i
    · subst e; exact List.getElem?_set_self (by rw [L2.wipe_length]; exact hl)
    · rw [List.getElem?_set_ne e]
      exact ih ((List.mem_cons.mp h).resolve_left fun z => e z.symm)
theorem lwipe_eq {own : List Nat} {σ σ' : L2.St} (hl : σ'.length = σ.length) (h : ∀ j, j ∉ own → σ'[j]? = σ[j]?) : L2.wipe σ' own = L2.wipe σ own := by
  apply List.ext_getElem?
  intro j
  by_cases hj : j ∈ own
  · by_cases hlt : j < σ.length
    · rw [lwipe_in hj hlt, lwipe_in hj (by omega)]
    · rw [List.getElem?_eq_none (by rw [L2.wipe_length]; omega), List.getElem?_eq_none (by rw [L2.wipe_length]; omega)]
  · rw [wipe_out hj, wipe_out hj, h j hj]
section
variable {K : Frag} {ι : List Addr} {s : St} {σ : L2.St} {H : Hp}
theorem Rel.wiped (R : Rel K ι s σ H) (own : List Nat) : Rel K ι { s with sl := wipe own s.sl } (L2.wipe σ own) H ∧ Stp ι s σ H ι { s with sl := wipe own s.sl } (L2.wipe σ own) H := by
  have get : ∀ {j : Nat} {z : Slot}, (wipe own s.sl)[j]? = some z → z ≠ .unset → j ∉ own ∧ s.sl[j]? = some z := fun {j z} e n => by
    by_cases hj : j ∈ own
    · by_cases hl : j < s.sl.length
      · rw [wipe_in hj hl] at e; cases e; exact (n rfl).elim
      · rw [List.getElem?_eq_none (by rw [wipe_len]; omega)] at e; cases e
    · rw [wipe_notin hj] at e; exact ⟨hj, e⟩
  have old : ∀ {x a n}, At ι { s with sl := wipe own s.sl } (L2.wipe σ own) x a n → At ι s σ x a n := fun {x a n} h => by
    cases h with
    | cell h1 h2 => exact .cell h1 h2
    | slot h1 h2 =>
      obtain ⟨hj, e⟩ := get h1 (by intro z; cases z)
      rw [wipe_out hj] at h2
      exact .slot e h2
  refine ⟨⟨R.hlen, by rw [L2.wipe_length]; exact (wipe_len _ _).trans R.slen, fun x a n h => R.ok x a n (old h), fun j d e => ?_, fun j n e => ?_, fun x y a n n' h h' => R.uniq x y a n n' (old h) (old h')⟩, .less rfl fun x a n h m l => by rw [l _ _ (old h)] at m; cases m⟩
  · obtain ⟨hj, e⟩ := get e (by intro z; cases z)
    obtain ⟨v, h1, h2⟩ := R.slot j d e
    exact ⟨v, by rw [wipe_out hj]; exact h1, h2⟩
  · obtain ⟨hj, e⟩ := get e (by intro z; cases z)
    obtain ⟨a, h1⟩ := R.own j n e
    exact ⟨a, by rw [wipe_out hj]; exact h1⟩
/-- back behind a block -/
theorem Rel.unwiped {ι2 : List Addr} {s2 : St} {H2 : Hp} {own : List Nat} (R : Rel K ι s σ H) (S : Stp ι { s with sl := wipe own s.sl } (L2.wipe σ own) H ι2 s2 (L2.wipe σ own) H2) (R2 : Rel K ι2 s2 (L2.wipe σ own) H2) :
    Post K ι s σ H ι2 { s2 with sl := unwipe own s.sl s2.sl } H2 := by
  obtain ⟨Rw, Sw⟩ := R.wiped own
  have kp := (Sw.trans S).keeps R
  have l2 : s2.sl.length = s.sl.length := by rw [R2.slen, L2.wipe_length, R.slen]
  have get : ∀ {j : Nat} {z : Slot}, (unwipe own s.sl s2.sl)[j]? = some z → (j ∈ own ∧ s.sl[j]? = some z) ∨ (j ∉ own ∧ s2.sl[j]? = some z) := fun {j z} e => by
    by_cases hj : j ∈ own
    · by_cases hl : j < s2.sl.length
      · rw [unwipe_in hj hl] at e
        cases e
        refine .inl ⟨hj, ?_⟩
        rw [List.getElem?_eq_getElem (by omega), List.getD_eq_getElem?_getD, List.getElem?_eq_getElem (by omega)]
        rfl
      · rw [List.getElem?_eq_none (by rw [unwipe_len]; omega)] at e; cases e
    · rw [unwipe_notin hj] at e; exact .inr ⟨hj, e⟩
  have old : ∀ {x a n}, At ι2 { s2 with sl := unwipe own s.sl s2.sl } σ x a n → (∃ i, x = .inl i ∧ i ∈ own ∧ At ι s σ x a n) ∨ ((∀ i, x = .inl i → i ∉ own) ∧ At ι2 s2 (L2.wipe σ own) x a n) := fun {x a n} h => by
    cases h with
    | cell h1 h2 => exact .inr ⟨(by intro i z; cases z), .cell h1 h2⟩
    | slot h1 h2 =>
      rcases get h1 with ⟨hj, e⟩ | ⟨hj, e⟩
      · exact .inl ⟨_, rfl, hj, .slot e h2⟩
      · exact .inr ⟨(by intro i z; cases z; exact hj), .slot e (by rw [wipe_out hj]; exact h2)⟩
  -- a list that a wiped name had is as it was
  have loose : ∀ {i a n}, i ∈ own → At ι s σ (.inl i) a n → n.mut = true → Loose ι { s with sl := wipe own s.sl } (L2.wipe σ own) a := fun {i a n} hi h m y n2 hy => by
    cases m2 : n2.mut with
    | false => rfl
    | true =>
      have hy' : At ι s σ y a n2 ∧ ∀ j, y = .inl j → j ∉ own := by
        cases hy with
        | cell h1 h2 => exact ⟨.cell h1 h2, (by intro j z; cases z)⟩
        | slot h1 h2 =>
          rename_i j
          have h1 : (wipe own s.sl)[j]? = some (.own n2) := h1
          by_cases hj : j ∈ own
          · by_cases hl : j < s.sl.length
            · rw [wipe_in hj hl] at h1; cases h1
            · rw [List.getElem?_eq_none (by rw [wipe_len]; omega)] at h1; cases h1
          · rw [wipe_notin hj] at h1
            rw [wipe_out hj] at h2
            exact ⟨.slot h1 h2, (by intro k z; cases z; exact hj)⟩
      have e := R.uniq _ _ _ _ _ hy'.1 h m2 m
      exact (hy'.2 i e hi).elim
  refine ⟨⟨S.pre, fun a o e l => ?_, fun x a n hx m => ?_, S.there, fun l n e m => S.stay l n e m⟩, ?_⟩
  · exact S.frame a o e fun x n hx => by
      have : At ι s σ x a n := by
        cases hx with
        | cell h1 h2 => exact .cell h1 h2
        | slot h1 h2 =>
          rename_i j
          have h1 : (wipe own s.sl)[j]? = some (.own n) := h1
          by_cases hj : j ∈ own
          · by_cases hl : j < s.sl.length
            · rw [wipe_in hj hl] at h1; cases h1
            · rw [List.getElem?_eq_none (by rw [wipe_len]; omega)] at h1; cases h1
          · rw [wipe_notin hj] at h1
            rw [wipe_out hj] at h2
            exact .slot h1 h2
      exact l x n this
  · rcases old hx with ⟨i, rfl, hi, h⟩ | ⟨_, h⟩
    · exact .inl fun l => by rw [l _ _ h] at m; cases m
    · exact (Sw.trans S).fresh x a n h m
  · refine ⟨R2.hlen, by rw [unwipe_len, l2, R.slen], fun x a n hx => ?_, fun j d e => ?_, fun j n e => ?_, fun x y a n n' hx hy m m' => ?_⟩
    · rcases old hx with ⟨i, rfl, hi, h⟩ | ⟨_, h⟩
      · refine (R.ok _ _ _ h).keep kp fun m => ?_
        obtain ⟨o, e, _⟩ := (R.ok _ _ _ h).some m
        rw [e, S.frame a o e (loose hi h m)]
      · exact R2.ok x a n h
    · rcases get e with ⟨hj, e⟩ | ⟨hj, e⟩
      · obtain ⟨v, h1, h2⟩ := R.slot j d e
        exact ⟨v, h1, h2.keep kp⟩
      · obtain ⟨v, h1, h2⟩ := R2.slot j d e
        exact ⟨v, by rw [wipe_out hj] at h1; exact h1, h2⟩
    · rcases get e with ⟨hj, e⟩ | ⟨hj, e⟩
      · exact R.own j n e
      · obtain ⟨a, h1⟩ := R2.own j n e
        exact ⟨a, by rw [wipe_out hj] at h1; exact h1⟩
    · have clash : ∀ {i n n2 z}, i ∈ own → At ι s σ (.inl i) a n → n.mut = true → At ι2 s2 (L2.wipe σ own) z a n2 → n2.mut = true → False := fun {i n n2 z} hi h m hz m2 => by
        obtain ⟨o, e, _⟩ := (R.ok _ _ _ h).some m
        rcases S.fresh z a n2 hz m2 with q | q
        · exact q (loose hi h m)
        · rw [e] at q; cases q
      rcases old hx with ⟨i, rfl, hi, h⟩ | ⟨_, h⟩
      · rcases old hy with ⟨i', rfl, hi', h'⟩ | ⟨_, h'⟩
        · exact R.uniq _ _ _ _ _ h h' m m'
        · exact (clash hi h m h' m').elim
      · rcases old hy with ⟨i', rfl, hi', h'⟩ | ⟨_, h'⟩
        · exact (clash hi' h' m' h m).elim
        · exact R2.uniq _ _ _ _ _ h h' m m'
end
end
end Y

/-! Y10: comprehensions, ranges, calls of one's own functions. -/
set_option linter.all false
set_option maxRecDepth 100000
set_option Elab.async false
set_option autoImplicit false
set_option maxHeartbeats 1000000
namespace Y
open PySem PySem.Spec L2
section
variable {K : Frag} {ι ι' : List Addr} {s s' : St} {σ σ' : L2.St} {H H' : Hp}
/-- a list that nobody holds is written, which was not there at the start -/
theorem stp_upd (a : Stp ι s σ H ι' s' σ' H') {D : Addr} {o : HO} (h : H D = none) : Stp ι s σ H ι' s' σ' (upd H' D o) :=
  ⟨a.pre, fun b u e l => by rw [upd_ne (ne_of_none e h)]; exact a.frame b u e l, a.fresh, fun b u e => by
    rw [upd_ne (ne_of_none e h)]; exact a.there b u e, a.stay⟩
theorem keeps_upd {D : Addr} {xs ys : List V} (h : H D = some (.lst xs)) : Keeps ι H ι (upd H D (.lst ys)) :=
  ⟨⟨[], by simp⟩, fun a zs e => by rw [upd_ne (ne_of e h (by intro z; cases z))]; exact e, fun a o u e => by rw [upd_ne (ne_of e h (by intro z; cases z))]; exact e⟩
theorem rel_upd (R : Rel K ι s σ H) {D : Addr} {xs ys : List V} (h : H D = some (.lst xs)) (l : Loose ι s σ D) : Rel K ι s σ (upd H D (.lst ys)) := by
  have kp : Keeps ι H ι (L2.upd H D (.lst ys)) := keeps_upd h
  refine ⟨R.hlen, R.slen, fun x a n hx => (R.ok x a n hx).keep kp fun m => upd_ne fun z => ?_, fun i d e => ?_, R.own, R.uniq⟩
  · subst z; rw [l x n hx] at m; cases m
  · obtain ⟨v, h1, h2⟩ := R.slot i d e
    exact ⟨v, h1, h2.keep kp⟩
end
section
variable {X : Cx} {Ex Ex' : ExP}
theorem pts_weak {es : List Expr} {t t' : TT} (h : PTs X es t) (w : ∀ σ H Q, t' σ H Q → t σ H Q) : PTs X es t' := ⟨fun pins s σ H Q I q => h.run pins s σ H Q I (w σ H Q q)⟩
theorem ptsm_nil : PTs X [] (tT X.K Ex (mIfs [])) := pts_weak pts_nil fun σ H Q ⟨ι, s, R, q⟩ => q ι H (.refl R)
theorem ptsm_one {c : Expr} {m : Mean} (h : PTm X Ex c m.T) : PTs X [c] (tT X.K Ex (mIfs [m])) := by
  refine pts_weak (pts_one h) fun σ H Q ⟨ι, s, R, q⟩ => ?_
  have e : mIfs [m] = m.T := by
    funext s
    show M.bind m.T (fun b => if b = true then M.pure true else M.pure false) s = m.T s
    unfold M.bind
    cases m.T s with
    | ok b s' => cases b <;> rfl
    | _ => rfl
  rw [e] at q
  exact ⟨ι, s, R, q⟩
theorem bind_ok {α β : Type} {m : M α} {f : α → M β} {s : St} {b : β} {s' : St} (h : M.bind m f s = .ok b s') : ∃ a s1, m s = .ok a s1 ∧ f a s1 = .ok b s' := by
  unfold M.bind at h
  cases e : m s with
  | ok a s1 => rw [e] at h; exact ⟨a, s1, rfl, h⟩
  | exc x s1 => rw [e] at h; cases h
  | stuck => rw [e] at h; cases h
/-- one turn of a comprehension -/
theorem lcGo_cons {w : Walk} {own : List Nat} {elt : M Opd} {t : Tg} {ifs : M Bool} {d : D} {ds acc dsF : List D} {s sF : St} (h : lcGo w own elt t ifs (d :: ds) acc s = .ok dsF sF) :
    w.same s = true ∧ ∃ z s0 b s1, t.put d s = .ok z s0 ∧ ifs s0 = .ok b s1 ∧ ((b = true ∧ ∃ o s2 e s3, elt s1 = .ok o s2 ∧ toD o s2 = .ok e s3 ∧ acc.length < lim ∧ lcGo w own elt t ifs ds (acc ++ [e]) { s3 with sl := wipe own s3.sl } = .ok dsF sF) ∨
      (b = false ∧ lcGo w own elt t ifs ds acc { s1 with sl := wipe own s1.sl } = .ok dsF sF)) := by
  unfold lcGo at h
  split at h
  · rename_i hs
    refine ⟨hs, ?_⟩
    split at h
    · rename_i s1 e1
      obtain ⟨z, s0, h1, h2⟩ := bind_ok e1
      split at h
      · rename_i e s3 e2
        obtain ⟨o, s2, h3, h4⟩ := bind_ok e2
        split at h
        · rename_i hl
          exact ⟨z, s0, true, s1, h1, h2, .inl ⟨rfl, o, s2, e, s3, h3, h4, hl, h⟩⟩
        · cases h
      · cases h
    · rename_i s1 e1
      obtain ⟨z, s0, h1, h2⟩ := bind_ok e1
      exact ⟨z, s0, false, s1, h1, h2, .inr ⟨rfl, h⟩⟩
    · cases h
  · cases h
theorem lcGo_nil {w : Walk} {own : List Nat} {elt : M Opd} {t : Tg} {ifs : M Bool} {acc dsF : List D} {s sF : St} (h : lcGo w own elt t ifs [] acc s = .ok dsF sF) : w.same s = true ∧ dsF = acc ∧ sF = s := by
  unfold lcGo at h
  split at h
  · rename_i hs; cases h; exact ⟨hs, rfl, rfl⟩
  · cases h
theorem lc_weak {K : Frag} {vs : List Nat} {t : Tg} {msrc : M Walk} {melt : M Opd} {mifs : M Bool} (hsl : ∀ i ∈ t.slots, i ∈ vs) {σ : L2.St} {H : Hp} {Q : VK} (h : tE K Ex (mLc vs melt t msrc mifs) σ H Q) :
    tLc (tI K Ex msrc) (tG K t) (tT K Ex' mifs) (tE K Ex' melt) vs σ H Q := by
  obtain ⟨ι, s, R, q⟩ := h
  refine ⟨ι, s, R, ?_⟩
  unfold mLc at q
  cases ew : msrc s with
  | exc x s1 => rw [ew] at q; exact q
  | stuck => rw [ew] at q; exact q
  | ok w s1 =>
    rw [ew] at q
    simp only at q
    intro ι1 H1 J P1 JO D hD
    cases el : lcGo w vs melt t mifs w.ds [] { s1 with sl := wipe vs s1.sl } with
    | exc x s2 => rw [el] at q; exact q.elim
    | stuck => rw [el] at q; exact q.elim
    | ok dsF sF =>
      rw [el] at q
      have q : BQ K ι s σ H Q (.tmp (.lst dsF)) { sF with sl := unwipe vs s1.sl sF.sl } := q
      obtain ⟨Rw, Sw⟩ := P1.rel.wiped vs
      -- the state at turn i
      let St' := fun (i : Nat) (H2 : Hp) => ∃ ι2 s2 acc vacc, Stp ι1 { s1 with sl := wipe vs s1.sl } (L2.wipe σ vs) H1 ι2 s2 (L2.wipe σ vs) H2 ∧ Rel K ι2 s2 (L2.wipe σ vs) H2 ∧ H2 D = some (.lst vacc) ∧ Reps K H2 ι2 vacc acc ∧
        Loose ι2 s2 (L2.wipe σ vs) D ∧ lcGo w vs melt t mifs (w.ds.drop i) acc s2 = .ok dsF sF
      refine ⟨fun i m H2 => m = w.ds.length - i ∧ i ≤ w.ds.length ∧ St' i H2, ⟨w.ds.length, by simp, Nat.zero_le _, ι1, _, [], [], stp_upd Stp.refl hD, Rw.more (le_upd hD), upd_same, .nil, loose_new Rw hD, el⟩, ?_⟩
      rintro i m H2 ⟨rfl, hil, ι2, s2, acc, vacc, S, R2, hD2, ra, lD, go⟩
      have live : w.same s2 = true → ∀ j xs, w.live = some (.own j, xs) → (L2.wipe σ vs)[j]? = σ[j]? := fun hsm j xs ej => by
        refine wipe_out fun hj => ?_
        have z := same_live ej hsm
        unfold lstOf nodeOf at z
        dsimp only at z
        by_cases hjl : j < σ.length
        · have hw := lwipe_in hj hjl
          cases e : s2.sl[j]? with
          | none => rw [e] at z; cases z
          | some y =>
            rw [e] at z
            cases y with
            | unset => cases z
            | own n => obtain ⟨a, ha⟩ := R2.own _ _ e; rw [hw] at ha; cases ha
            | val d => obtain ⟨v, hv, _⟩ := R2.slot _ _ e; rw [hw] at hv; cases hv
        · have : s2.sl[j]? = none := List.getElem?_eq_none (by rw [R2.slen, L2.wipe_length]; omega)
          rw [this] at z; cases z
      by_cases hlt : i < w.ds.length
      · right
        have ed : w.ds[i]? = some w.ds[i] := List.getElem?_eq_getElem hlt
        rw [List.drop_eq_getElem_cons hlt] at go
        obtain ⟨hsm, z, s3, b, s4, e3, e4, rest⟩ := lcGo_cons go
        obtain ⟨hgo, hy⟩ := JO.go P1.rel (Sw.trans S) R2 (live hsm) hsm i _ ed
        refine ⟨hgo, fun H' => St' (i + 1) H', fun H' h' => ⟨_, by omega, rfl, hlt, h'⟩, fun x H3 yx => ?_⟩
        obtain ⟨le, rx⟩ := hy x H3 yx
        have P23 : Post K ι2 s2 (L2.wipe σ vs) H2 ι2 s2 H3 := Post.more R2 le
        refine ⟨ι2, s2, w.ds[i], P23.rel, rx, ?_⟩
        rw [e3]
        intro ι4 σ4 H4 S4 R4 f4 l4
        have ew4 : L2.wipe σ4 vs = L2.wipe σ vs := by
          have : L2.wipe σ4 vs = L2.wipe (L2.wipe σ vs) vs := lwipe_eq l4 fun j hj => f4 j fun hj' => hj (hsl j hj')
          rw [this]
          exact lwipe_eq (L2.wipe_length _ _) fun j hj => wipe_out hj
        refine ⟨ew4, ι4, s3, R4, ?_⟩
        rw [e4]
        intro ι5 H5 P5
        -- all so far
        have S5 : Stp ι2 s2 (L2.wipe σ vs) H2 ι5 s4 σ4 H5 := (P23.stp.trans S4).trans P5.stp
        rcases rest with ⟨rfl, o, s6, e, s7, h6, h7, hlen, go'⟩ | ⟨rfl, go'⟩
        · rw [if_pos rfl]
          refine ⟨ι5, s4, P5.rel, ?_⟩
          rw [h6]
          intro ι6 y H6 P6 k6 n6
          obtain ⟨ι7, r7, f7⟩ := toD_ok P6.rel k6 h7
          have P7 := f7 P6 n6
          have S7 : Stp ι2 s2 (L2.wipe σ vs) H2 ι7 s7 σ4 H6 := S5.trans P7.stp
          have hD6 : H6 D = some (.lst vacc) := S7.frame D _ hD2 lD
          have lD7 : Loose ι7 s7 σ4 D := S7.loose hD2 lD
          have hz : vacc.length < sizeLine := by rw [ra.length, ← lim_line]; exact hlen
          refine ⟨vacc, hD6, hz, ι7, { s7 with sl := wipe vs s7.sl }, acc ++ [e], vacc ++ [y], ?_, ?_, upd_same, ?_, ?_, go'⟩
          · have Sx := stp_upd (D := D) (o := .lst (vacc ++ [y])) ((S.trans S7).trans (P7.rel.wiped vs).2) hD
            rw [ew4] at Sx
            exact Sx
          · have Rx := (rel_upd (ys := vacc ++ [y]) P7.rel hD6 lD7).wiped vs
            rw [ew4] at Rx
            exact Rx.1
          · have kp : Keeps ι7 H6 ι7 (upd H6 D (.lst (vacc ++ [y]))) := keeps_upd hD6
            exact ((ra.keep (S7.keeps R2)).append (.cons r7 .nil)).keep kp
          · have := (P7.rel.wiped vs).2.loose hD6 lD7
            rw [ew4] at this
            exact this
        · rw [if_neg Bool.false_ne_true]
          have Rx := P5.rel.wiped vs
          rw [ew4] at Rx
          refine ⟨ι5, { s4 with sl := wipe vs s4.sl }, acc, vacc, (S.trans S5).trans Rx.2, Rx.1, S5.frame D _ hD2 lD, ra.keep (S5.keeps R2), Rx.2.loose (S5.frame D _ hD2 lD) (S5.loose hD2 lD), go'⟩
      · left
        have e : i = w.ds.length := by omega
        subst e
        rw [List.drop_length] at go
        obtain ⟨hsm, rfl, rfl⟩ := lcGo_nil go
        refine ⟨JO.stop P1.rel (Sw.trans S) R2 (live hsm) hsm, ?_⟩
        have PF := P1.rel.unwiped S R2
        refine q ι2 _ H2 (P1.trans PF) ⟨D, rfl, ⟨vacc, hD2, ra⟩, fun _ => ?_⟩ fun _ a ea => ?_
        · intro x n hx
          cases m : n.mut with
          | false => rfl
          | true =>
            -- who holds D behind the block held it in it, or ahead of it
            cases hx with
            | cell h1 h2 => rw [lD _ _ (.cell h1 h2)] at m; cases m
            | slot h1 h2 =>
              rename_i j
              have h1 : (unwipe vs s1.sl sF.sl)[j]? = some (.own n) := h1
              by_cases hj : j ∈ vs
              · by_cases hl : j < sF.sl.length
                · rw [unwipe_in hj hl] at h1
                  have hl1 : j < s1.sl.length := by
                    have a1 := R2.slen
                    have a2 := P1.rel.slen
                    rw [L2.wipe_length] at a1
                    omega
                  have h1' : s1.sl[j]? = some (.own n) := by
                    rw [List.getElem?_eq_getElem hl1]
                    rw [List.getD_eq_getElem?_getD, List.getElem?_eq_getElem hl1] at h1
                    exact h1
                  obtain ⟨o, eo, _⟩ := (P1.rel.ok _ _ _ (.slot h1' h2)).some m
                  rw [hD] at eo; cases eo
                · rw [List.getElem?_eq_none (by rw [unwipe_len]; omega)] at h1; cases h1
              · rw [unwipe_notin hj] at h1
                rw [lD _ _ (.slot h1 (by rw [wipe_out hj]; exact h2))] at m; cases m
        · cases ea
          exact P1.stp.none hD
theorem pem_lc {elt tg iter : Expr} {ifs : List Expr} {scope : Scope} {own : List (Str × Nat)} {pos : Pos} {t : Tg} {msrc : M Walk} {melt : M Opd} {mifs : M Bool} (hc : X.calm = true) (hN : X.N.Nodup) (hi : PIm X Ex tg iter msrc) (ok : BlkOk X.N X.env.scope scope own)
    (hsl : ∀ i ∈ t.slots, i ∈ own.map (·.2))
    (hg : ∀ (s : Shared) (H : Hp) (C : Addr) (cl : List (Str × Addr)) (fp : List Addr), PG (X.blk s H scope (compEnvC scope cl C X.env) fp) tg (tG X.K t)) (ht : ∀ (s : Shared) (H : Hp) (C : Addr) (cl : List (Str × Addr)) (fp : List Addr), PTs (X.blk s H scope (compEnvC scope cl C X.env) fp) ifs (tT X.K Ex' mifs))
    (he : ∀ (s : Shared) (H : Hp) (C : Addr) (cl : List (Str × Addr)) (fp : List Addr), PE (X.blk s H scope (compEnvC scope cl C X.env) fp) elt (tE X.K Ex' melt)) (hs : ∀ x, foldedSetIterable iter X.env x = pure x) :
    PEm X Ex (.ListComp elt [⟨tg, iter, ifs, 0⟩] scope pos) (mLc (own.map (·.2)) melt t msrc mifs) := by
  exact pe_weak (pe_lc hc hN hi ok hg ht he hs) fun σ H Q h => lc_weak hsl h
/-! ### ranges -/
theorem upD_get {i j : Int} {k : Nat} {d : D} (h : (upD i j)[k]? = some d) : k < (j - i).toNat ∧ d = .int (i + k) := by
  unfold upD at h
  rw [List.getElem?_map] at h
  obtain ⟨z, hz, rfl⟩ := Option.map_eq_some_iff.mp h
  have hk : k < (j - i).toNat := by
    have := (List.getElem?_eq_some_iff.mp hz).1
    rwa [List.length_range] at this
  rw [List.getElem?_range hk] at hz
  cases hz
  exact ⟨hk, rfl⟩
theorem upD_len (i j : Int) : (upD i j).length = (j - i).toNat := by simp [upD]
theorem downD_get {i j : Int} {k : Nat} {d : D} (h : (downD i j)[k]? = some d) : k < (i - j).toNat ∧ d = .int (i + (k : Int) * -1) := by
  unfold downD at h
  rw [List.getElem?_map] at h
  obtain ⟨z, hz, rfl⟩ := Option.map_eq_some_iff.mp h
  have hk : k < (i - j).toNat := by
    have := (List.getElem?_eq_some_iff.mp hz).1
    rwa [List.length_range] at this
  rw [List.getElem?_range hk] at hz
  cases hz
  exact ⟨hk, rfl⟩
theorem downD_len (i j : Int) : (downD i j).length = (i - j).toNat := by simp [downD]
theorem jok_up {K : Frag} {ι : List Addr} {s : St} {σ : L2.St} {H : Hp} {i j : Int} : JOk K ⟨upD i j, none⟩ (Itr i (j - i).toNat) ι s σ H :=
  ⟨.non, (fun o xs e => by cases e), fun S R2 h => ⟨fun k d ed => by
    obtain ⟨hk, rfl⟩ := upD_get ed
    exact ⟨hk, fun x H3 ⟨e1, e2⟩ => by subst e1 e2; exact ⟨fun _ _ e => e, .int _⟩⟩, Nat.le_of_eq (upD_len i j).symm⟩⟩
theorem jok_down {K : Frag} {ι : List Addr} {s : St} {σ : L2.St} {H : Hp} {i j : Int} : JOk K ⟨downD i j, none⟩ (Itc i (-1) (i - j).toNat) ι s σ H :=
  ⟨.non, (fun o xs e => by cases e), fun S R2 h => ⟨fun k d ed => by
    obtain ⟨hk, rfl⟩ := downD_get ed
    exact ⟨hk, fun x H3 ⟨e1, e2⟩ => by subst e1 e2; exact ⟨fun _ _ e => e, .int _⟩⟩, Nat.le_of_eq (downD_len i j).symm⟩⟩
theorem mOs_length : ∀ {ms : List Mean} {s : St} {ds : List Opd} {s' : St}, mOs ms s = .ok ds s' → ds.length = ms.length
  | [], _, _, _, h => by cases h; rfl
  | m :: ms, s, ds, s', h => by
    obtain ⟨o, s1, _, h⟩ := bind_ok (show M.bind m.E (fun o => M.bind (mOs ms) fun os => M.pure (o :: os)) s = .ok ds s' from h)
    obtain ⟨os, s2, h2, h⟩ := bind_ok h
    cases h
    rw [List.length_cons, List.length_cons, mOs_length h2]
variable {tg : Expr} {p pos : Pos}
/-- what a range of so many operands gives -/
theorem rng_next {K : Frag} {ι : List Addr} {s : St} {σ : L2.St} {H : Hp} {R : It → Hp → Prop} {os : List Opd} {s1 : St} (q : OutG K ι s σ H Ex (BW K ι s σ H R) (mRng os s1)) {ι1 : List Addr} {vs : List V} {H1 : Hp} (P : Post K ι s σ H ι1 s1 H1) (k : OpdsOk K H1 ι1 s1 σ vs os) :
    (∃ j, vs = [.int j] ∧ (-(2 ^ 62) ≤ j ∧ j < 2 ^ 62) ∧ os.length = 1 ∧ R (Itr 0 j.toNat) H1) ∨ (∃ i j, vs = [.int i, .int j] ∧ (-(2 ^ 62) ≤ i ∧ i < 2 ^ 62 ∧ -(2 ^ 62) ≤ j ∧ j < 2 ^ 62) ∧ os.length = 2 ∧ R (Itr i (j - i).toNat) H1) ∨
      (∃ i j, vs = [.int i, .int j, .int (-1)] ∧ RgC i j (-1) (i - j).toNat ∧ os.length = 3 ∧ R (Itc i (-1) (i - j).toNat) H1) := by
  unfold mRng at q
  split at q
  · split at q
    · rename_i h
      cases k with
      | cons k kn =>
        cases kn
        cases (show Rep _ _ _ _ _ from k)
        rename_i j
        have := q ι1 H1 _ P jok_up
        rw [Int.sub_zero] at this
        exact .inl ⟨_, rfl, h, rfl, this⟩
    · exact q.elim
  · split at q
    · rename_i h
      cases k with
      | cons k kn =>
        cases kn with
        | cons k2 kn =>
          cases kn
          cases (show Rep _ _ _ _ _ from k)
          cases (show Rep _ _ _ _ _ from k2)
          exact .inr (.inl ⟨_, _, rfl, ⟨h.1.1, h.1.2, h.2.1, h.2.2⟩, rfl, q ι1 H1 _ P jok_up⟩)
    · exact q.elim
  · split at q
    · rename_i h
      obtain ⟨h1, h2, rfl⟩ := h
      cases k with
      | cons k kn =>
        cases kn with
        | cons k2 kn =>
          cases kn with
          | cons k3 kn =>
            cases kn
            cases (show Rep _ _ _ _ _ from k)
            cases (show Rep _ _ _ _ _ from k2)
            cases (show Rep _ _ _ _ _ from k3)
            exact .inr (.inr ⟨_, _, rfl, RgC.neg h1.1 h1.2 h2.1 h2.2, rfl, q ι1 H1 _ P jok_down⟩)
    · exact q.elim
  · exact q.elim
theorem pim_rng1 {a : Expr} {m : Mean} (hg : Gl X "range") (hm : X.mg "range" = none) (ha : PAo X Ex [a] (mOs [m])) (hs : starEach [a] X.env = [(false, eval a X.env)]) : PIm X Ex tg (.Call (.Name "range" p) [a] [] pos) (M.bind (mOs [m]) mRng) := by
  refine pi_weak (pi_range1 hg hm ha hs) fun σ H R ⟨ι, s, Rl, q⟩ => ?_
  obtain ⟨ι', s', R', q'⟩ := tO_next (.refl Rl) q
  refine ⟨ι', s', R', ?_⟩
  cases e : mOs [m] s' with
  | exc x s2 => rw [e] at q'; exact q'
  | stuck => rw [e] at q'; exact q'
  | ok os s2 =>
    rw [e] at q'
    have hl := mOs_length e
    intro ι2 vs H2 P2 k2
    obtain ⟨ι3, s3, os3, P3, _, k3, q3⟩ := q' ι2 vs H2 P2 k2
    have hv : vs.length = 1 := (Paired.length k2).trans hl
    rcases rng_next q3 P3 k3 with ⟨j, rfl, h, _, r⟩ | ⟨i, j, rfl, _⟩ | ⟨i, j, rfl, _⟩
    · exact ⟨j, rfl, h.1, h.2, r⟩
    · simp at hv
    · simp at hv
theorem pim_rng2 {a b : Expr} {m m' : Mean} (hg : Gl X "range") (hm : X.mg "range" = none) (ha : PAo X Ex [a, b] (mOs [m, m'])) (hs : starEach [a, b] X.env = [(false, eval a X.env), (false, eval b X.env)]) (hs2 : starEach [b] X.env = [(false, eval b X.env)]) : PIm X Ex tg (.Call (.Name "range" p) [a, b] [] pos) (M.bind (mOs [m, m']) mRng) := by
  refine pi_weak (pi_range2 hg hm ha hs hs2) fun σ H R ⟨ι, s, Rl, q⟩ => ?_
  obtain ⟨ι', s', R', q'⟩ := tO_next (.refl Rl) q
  refine ⟨ι', s', R', ?_⟩
  cases e : mOs [m, m'] s' with
  | exc x s2 => rw [e] at q'; exact q'
  | stuck => rw [e] at q'; exact q'
  | ok os s2 =>
    rw [e] at q'
    have hl := mOs_length e
    intro ι2 vs H2 P2 k2
    obtain ⟨ι3, s3, os3, P3, _, k3, q3⟩ := q' ι2 vs H2 P2 k2
    have hv : vs.length = 2 := (Paired.length k2).trans hl
    rcases rng_next q3 P3 k3 with ⟨j, rfl, _⟩ | ⟨i, j, rfl, h, _, r⟩ | ⟨i, j, rfl, _⟩
    · simp at hv
    · exact ⟨i, j, rfl, h, r⟩
    · simp at hv
theorem pim_rng3 {a b c : Expr} {m m' m2 : Mean} (hg : Gl X "range") (hm : X.mg "range" = none) (ha : PAo X Ex [a, b, c] (mOs [m, m', m2])) (hs : starEach [a, b, c] X.env = (false, eval a X.env) :: starEach [b, c] X.env) (hpl : (backTo pos (starEach [b, c] X.env)).any (·.1) = false) : PIm X Ex tg (.Call (.Name "range" p) [a, b, c] [] pos) (M.bind (mOs [m, m', m2]) mRng) := by
  refine pi_weak (pi_range3 hg hm ha hs hpl) fun σ H R ⟨ι, s, Rl, q⟩ => ?_
  obtain ⟨ι', s', R', q'⟩ := tO_next (.refl Rl) q
  refine ⟨ι', s', R', ?_⟩
  cases e : mOs [m, m', m2] s' with
  | exc x s2 => rw [e] at q'; exact q'
  | stuck => rw [e] at q'; exact q'
  | ok os s2 =>
    rw [e] at q'
    have hl := mOs_length e
    intro ι2 vs H2 P2 k2
    obtain ⟨ι3, s3, os3, P3, _, k3, q3⟩ := q' ι2 vs H2 P2 k2
    have hv : vs.length = 3 := (Paired.length k2).trans hl
    rcases rng_next q3 P3 k3 with ⟨j, rfl, _⟩ | ⟨i, j, rfl, _⟩ | ⟨i, j, rfl, h, _, r⟩
    · simp at hv
    · simp at hv
    · exact ⟨i, j, -1, _, rfl, h, r⟩
end
end Y

/-! Y31: comprehensions of two clauses. -/
set_option linter.all false
set_option maxRecDepth 100000
set_option Elab.async false
set_option autoImplicit false
set_option maxHeartbeats 1000000
namespace Y
open PySem PySem.Spec L2
section
variable {X : Cx} {Ex Ex' : ExP}
theorem Keeps.trans {ι ι' ι2 : List Addr} {H H' H2 : Hp} (a : Keeps ι H ι' H') (b : Keeps ι' H' ι2 H2) : Keeps ι H ι2 H2 := by
  obtain ⟨e1, h1⟩ := a.pre
  obtain ⟨e2, h2⟩ := b.pre
  exact ⟨⟨e1 ++ e2, by rw [h2, h1, List.append_assoc]⟩, fun x xs e => b.tup x xs (a.tup x xs e), fun x o u e => b.frz x o u (a.frz x o u e)⟩
theorem live_keep {K : Frag} {ι ι2 : List Addr} {s s2 : St} {σ σ2 : L2.St} {H H2 : Hp} {v : V} {o : Opd} (k : OpdOk K H ι s σ v o) (a : Keeps ι H ι2 H2) (ht : ∀ n, o ≠ .tmp n) (h : ∀ i, o = .own i → σ2[i]? = σ[i]?) : OpdOk K H2 ι2 s2 σ2 v o := by
  cases o with
  | val d => exact Rep.keep a k
  | own i => exact (h i rfl).trans k
  | tmp n => exact (ht n rfl).elim
/-- the loop of a clause, the list D being written -/
theorem lc_loop {K : Frag} {vs : List Nat} {t : Tg} {w : Walk} {melt : M Opd} {mifs : M Bool} (hsl : ∀ i ∈ t.slots, i ∈ vs) (hlive : ∀ n xs, w.live ≠ some (.tmp n, xs)) {ιb ι1 : List Addr} {sb s1 : St} {σb σ : L2.St} {Hb H1 : Hp} {J : It} {D0 : Addr} {vacc0 : List V} {acc0 dsF : List D} {sF : St}
    (JO : JOk K w J ι1 s1 σ H1) (R1 : Rel K ι1 s1 σ H1) (Sb : Stp ιb sb σb Hb ι1 s1 σ H1) (hDb : Hb D0 = none) (hD : H1 D0 = some (.lst vacc0)) (ra0 : Reps K H1 ι1 vacc0 acc0) (lD0 : Loose ι1 s1 σ D0)
    (el : lcGo w vs melt t mifs w.ds acc0 { s1 with sl := wipe vs s1.sl } = .ok dsF sF) {Fin : Hp → Prop}
    (fin : ∀ ι2 vaccF H, Stp ιb sb σb Hb ι2 sF (L2.wipe σ vs) H → Rel K ι2 sF (L2.wipe σ vs) H → H D0 = some (.lst vaccF) → Reps K H ι2 vaccF dsF → Loose ι2 sF (L2.wipe σ vs) D0 → Fin H) :
    ∃ W : Nat → Nat → Hp → Prop, (∃ m, W 0 m H1) ∧ ∀ i m H, W i m H → (J.stop i H ∧ Fin H) ∨ (J.go i H ∧ ∃ Nx : Hp → Prop, (∀ H', Nx H' → ∃ m', m' < m ∧ W (i + 1) m' H') ∧ ∀ x H', J.yld i H x H' → tG K t x (L2.wipe σ vs) H' fun σ2 H2 => L2.wipe σ2 vs = L2.wipe σ vs ∧
      tT K Ex' mifs σ2 H2 fun b H3 => if b = true then tE K Ex' melt σ2 H3 fun y H4 => ∃ acc, H4 D0 = some (.lst acc) ∧ acc.length < sizeLine ∧ Nx (upd H4 D0 (.lst (acc ++ [y]))) else Nx H3) := by
  obtain ⟨v0, hv0, jgo⟩ := JO.ex
  obtain ⟨Rw, Sw⟩ := R1.wiped vs
  let St' := fun (i : Nat) (H2 : Hp) => ∃ ι2 s2 acc vacc, Stp ιb sb σb Hb ι2 s2 (L2.wipe σ vs) H2 ∧ Keeps ι1 H1 ι2 H2 ∧ Rel K ι2 s2 (L2.wipe σ vs) H2 ∧ H2 D0 = some (.lst vacc) ∧ Reps K H2 ι2 vacc acc ∧
    Loose ι2 s2 (L2.wipe σ vs) D0 ∧ lcGo w vs melt t mifs (w.ds.drop i) acc s2 = .ok dsF sF
  refine ⟨fun i m H2 => m = w.ds.length - i ∧ i ≤ w.ds.length ∧ St' i H2, ⟨w.ds.length, by simp, Nat.zero_le _, ι1, _, acc0, vacc0, Sb.trans Sw, Keeps.of_le (fun _ _ e => e), Rw, hD, ra0, Sw.loose hD lD0, el⟩, ?_⟩
  rintro i m H2 ⟨rfl, hil, ι2, s2, acc, vacc, S, kq, R2, hD2, ra, lD, go⟩
  have live : w.same s2 = true → ∀ j xs, w.live = some (.own j, xs) → (L2.wipe σ vs)[j]? = σ[j]? := fun hsm j xs ej => by
    refine wipe_out fun hj => ?_
    have z := same_live ej hsm
    unfold lstOf nodeOf at z
    dsimp only at z
    by_cases hjl : j < σ.length
    · have hw := lwipe_in hj hjl
      cases e : s2.sl[j]? with
      | none => rw [e] at z; cases z
      | some y =>
        rw [e] at z
        cases y with
        | unset => cases z
        | own n => obtain ⟨a, ha⟩ := R2.own _ _ e; rw [hw] at ha; cases ha
        | val d => obtain ⟨v, hv, _⟩ := R2.slot _ _ e; rw [hw] at hv; cases hv
    · have : s2.sl[j]? = none := List.getElem?_eq_none (by rw [R2.slen, L2.wipe_length]; omega)
      rw [this] at z; cases z
  have now : w.same s2 = true → _ := fun hsm => jgo kq R2 fun o xs eo => ⟨o, live_keep (s2 := s2) (hv0 o xs eo) kq (fun n z => hlive n xs (by rw [eo, z])) fun i e => live hsm i xs (e ▸ eo), same_live eo hsm⟩
  by_cases hlt : i < w.ds.length
  · right
    have ed : w.ds[i]? = some w.ds[i] := List.getElem?_eq_getElem hlt
    rw [List.drop_eq_getElem_cons hlt] at go
    obtain ⟨hsm, z, s3, b, s4, e3, e4, rest⟩ := lcGo_cons go
    obtain ⟨hgo, hy⟩ := (now hsm).1 i _ ed
    refine ⟨hgo, fun H' => St' (i + 1) H', fun H' h' => ⟨_, by omega, rfl, hlt, h'⟩, fun x H3 yx => ?_⟩
    obtain ⟨le, rx⟩ := hy x H3 yx
    have P23 : Post K ι2 s2 (L2.wipe σ vs) H2 ι2 s2 H3 := Post.more R2 le
    refine ⟨ι2, s2, w.ds[i], P23.rel, rx, ?_⟩
    rw [e3]
    intro ι4 σ4 H4 S4 R4 f4 l4
    have ew4 : L2.wipe σ4 vs = L2.wipe σ vs := by
      have : L2.wipe σ4 vs = L2.wipe (L2.wipe σ vs) vs := lwipe_eq l4 fun j hj => f4 j fun hj' => hj (hsl j hj')
      rw [this]
      exact lwipe_eq (L2.wipe_length _ _) fun j hj => wipe_out hj
    refine ⟨ew4, ι4, s3, R4, ?_⟩
    rw [e4]
    intro ι5 H5 P5
    have S5 : Stp ι2 s2 (L2.wipe σ vs) H2 ι5 s4 σ4 H5 := (P23.stp.trans S4).trans P5.stp
    rcases rest with ⟨rfl, o, s6, e, s7, h6, h7, hlen, go'⟩ | ⟨rfl, go'⟩
    · rw [if_pos rfl]
      refine ⟨ι5, s4, P5.rel, ?_⟩
      rw [h6]
      intro ι6 y H6 P6 k6 n6
      obtain ⟨ι7, r7, f7⟩ := toD_ok P6.rel k6 h7
      have P7 := f7 P6 n6
      have S7 : Stp ι2 s2 (L2.wipe σ vs) H2 ι7 s7 σ4 H6 := S5.trans P7.stp
      have hD6 : H6 D0 = some (.lst vacc) := S7.frame D0 _ hD2 lD
      have lD7 : Loose ι7 s7 σ4 D0 := S7.loose hD2 lD
      have hz : vacc.length < sizeLine := by rw [ra.length, ← lim_line]; exact hlen
      have kp : Keeps ι7 H6 ι7 (upd H6 D0 (.lst (vacc ++ [y]))) := keeps_upd hD6
      refine ⟨vacc, hD6, hz, ι7, { s7 with sl := wipe vs s7.sl }, acc ++ [e], vacc ++ [y], ?_, (kq.trans (S7.keeps R2)).trans kp, ?_, upd_same, ?_, ?_, go'⟩
      · have Sx := stp_upd (D := D0) (o := .lst (vacc ++ [y])) ((S.trans S7).trans (P7.rel.wiped vs).2) hDb
        rw [ew4] at Sx
        exact Sx
      · have Rx := (rel_upd (ys := vacc ++ [y]) P7.rel hD6 lD7).wiped vs
        rw [ew4] at Rx
        exact Rx.1
      · exact ((ra.keep (S7.keeps R2)).append (.cons r7 .nil)).keep kp
      · have := (P7.rel.wiped vs).2.loose hD6 lD7
        rw [ew4] at this
        exact this
    · rw [if_neg Bool.false_ne_true]
      have Rx := P5.rel.wiped vs
      rw [ew4] at Rx
      exact ⟨ι5, { s4 with sl := wipe vs s4.sl }, acc, vacc, (S.trans S5).trans Rx.2, kq.trans (S5.keeps R2), Rx.1, S5.frame D0 _ hD2 lD, ra.keep (S5.keeps R2), Rx.2.loose (S5.frame D0 _ hD2 lD) (S5.loose hD2 lD), go'⟩
  · left
    have e : i = w.ds.length := by omega
    subst e
    rw [List.drop_length] at go
    obtain ⟨hsm, rfl, rfl⟩ := lcGo_nil go
    exact ⟨(now hsm).2, fin ι2 vacc H2 S R2 hD2 ra lD⟩
theorem lcGo2_cons {w : Walk} {own vs1 : List Nat} {elt : M Opd} {t t1 : Tg} {ifs ifs1 : M Bool} {src1 : M Walk} {d : D} {ds acc dsF : List D} {s sF : St} (h : lcGo2 w own vs1 elt t ifs t1 src1 ifs1 (d :: ds) acc s = .ok dsF sF) :
    w.same s = true ∧ ∃ z s0 b s1, t.put d s = .ok z s0 ∧ ifs s0 = .ok b s1 ∧ ((b = true ∧ ∃ w1 s2 acc' s3, src1 s1 = .ok w1 s2 ∧ (∀ n xs, w1.live ≠ some (.tmp n, xs)) ∧ lcGo w1 vs1 elt t1 ifs1 w1.ds acc { s2 with sl := wipe vs1 s2.sl } = .ok acc' s3 ∧
        lcGo2 w own vs1 elt t ifs t1 src1 ifs1 ds acc' { s3 with sl := wipe own s3.sl } = .ok dsF sF) ∨
      (b = false ∧ lcGo2 w own vs1 elt t ifs t1 src1 ifs1 ds acc { s1 with sl := wipe own s1.sl } = .ok dsF sF)) := by
  unfold lcGo2 at h
  split at h
  · rename_i hs
    refine ⟨hs, ?_⟩
    split at h
    · rename_i s1 e1
      obtain ⟨z, s0, h1, h2⟩ := bind_ok e1
      split at h
      · rename_i w1 s2 e2
        split at h
        · cases h
        · rename_i hno
          split at h
          · rename_i acc' s3 e3
            exact ⟨z, s0, true, s1, h1, h2, .inl ⟨rfl, w1, s2, acc', s3, e2, hno, e3, h⟩⟩
          · cases h
      · cases h
    · rename_i s1 e1
      obtain ⟨z, s0, h1, h2⟩ := bind_ok e1
      exact ⟨z, s0, false, s1, h1, h2, .inr ⟨rfl, h⟩⟩
    · cases h
  · cases h
theorem lcGo2_nil {w : Walk} {own vs1 : List Nat} {elt : M Opd} {t t1 : Tg} {ifs ifs1 : M Bool} {src1 : M Walk} {acc dsF : List D} {s sF : St} (h : lcGo2 w own vs1 elt t ifs t1 src1 ifs1 [] acc s = .ok dsF sF) : w.same s = true ∧ dsF = acc ∧ sF = s := by
  unfold lcGo2 at h
  split at h
  · rename_i hs; cases h; exact ⟨hs, rfl, rfl⟩
  · cases h
theorem lc2_weak {K : Frag} {vs vs1 : List Nat} {t t1 : Tg} {msrc msrc1 : M Walk} {melt : M Opd} {mifs mifs1 : M Bool} (hsl : ∀ i ∈ t.slots, i ∈ vs) (hsl1 : ∀ i ∈ t1.slots, i ∈ vs1) (hvv : ∀ i ∈ vs1, i ∈ vs) {σ : L2.St} {H : Hp} {Q : VK} (h : tE K Ex (mLc2 vs vs1 melt t msrc mifs t1 msrc1 mifs1) σ H Q) :
    tLc2 (tI K Ex msrc) (tG K t) (tT K Ex' mifs) (tI K Ex' msrc1) (tG K t1) (tT K Ex' mifs1) (tE K Ex' melt) vs vs1 σ H Q := by
  obtain ⟨ι, s, R, q⟩ := h
  refine ⟨ι, s, R, ?_⟩
  unfold mLc2 at q
  cases ew : msrc s with
  | exc x s1 => rw [ew] at q; exact q
  | stuck => rw [ew] at q; exact q
  | ok w s1 =>
    rw [ew] at q
    simp only at q
    intro ι1 H1 J P1 JO D0 hD
    cases el : lcGo2 w vs vs1 melt t mifs t1 msrc1 mifs1 w.ds [] { s1 with sl := wipe vs s1.sl } with
    | exc x s2 => rw [el] at q; exact q.elim
    | stuck => rw [el] at q; exact q.elim
    | ok dsF sF =>
      rw [el] at q
      have q : BQ K ι s σ H Q (.tmp (.lst dsF)) { sF with sl := unwipe vs s1.sl sF.sl } := q
      obtain ⟨Rw, Sw⟩ := P1.rel.wiped vs
      let St' := fun (i : Nat) (H2 : Hp) => ∃ ι2 s2 acc vacc, Stp ι1 { s1 with sl := wipe vs s1.sl } (L2.wipe σ vs) H1 ι2 s2 (L2.wipe σ vs) H2 ∧ Rel K ι2 s2 (L2.wipe σ vs) H2 ∧ H2 D0 = some (.lst vacc) ∧ Reps K H2 ι2 vacc acc ∧
        Loose ι2 s2 (L2.wipe σ vs) D0 ∧ lcGo2 w vs vs1 melt t mifs t1 msrc1 mifs1 (w.ds.drop i) acc s2 = .ok dsF sF
      refine ⟨fun i m H2 => m = w.ds.length - i ∧ i ≤ w.ds.length ∧ St' i H2, ⟨w.ds.length, by simp, Nat.zero_le _, ι1, _, [], [], stp_upd Stp.refl hD, Rw.more (le_upd hD), upd_same, .nil, loose_new Rw hD, el⟩, ?_⟩
      rintro i m H2 ⟨rfl, hil, ι2, s2, acc, vacc, S, R2, hD2, ra, lD, go⟩
      have live : w.same s2 = true → ∀ j xs, w.live = some (.own j, xs) → (L2.wipe σ vs)[j]? = σ[j]? := fun hsm j xs ej => by
        refine wipe_out fun hj => ?_
        have z := same_live ej hsm
        unfold lstOf nodeOf at z
        dsimp only at z
        by_cases hjl : j < σ.length
        · have hw := lwipe_in hj hjl
          cases e : s2.sl[j]? with
          | none => rw [e] at z; cases z
          | some y =>
            rw [e] at z
            cases y with
            | unset => cases z
            | own n => obtain ⟨a, ha⟩ := R2.own _ _ e; rw [hw] at ha; cases ha
            | val d => obtain ⟨v, hv, _⟩ := R2.slot _ _ e; rw [hw] at hv; cases hv
        · have : s2.sl[j]? = none := List.getElem?_eq_none (by rw [R2.slen, L2.wipe_length]; omega)
          rw [this] at z; cases z
      by_cases hlt : i < w.ds.length
      · right
        have ed : w.ds[i]? = some w.ds[i] := List.getElem?_eq_getElem hlt
        rw [List.drop_eq_getElem_cons hlt] at go
        obtain ⟨hsm, z, s3, b, s4, e3, e4, rest⟩ := lcGo2_cons go
        obtain ⟨hgo, hy⟩ := JO.go P1.rel (Sw.trans S) R2 (live hsm) hsm i _ ed
        refine ⟨hgo, fun H' => St' (i + 1) H', fun H' h' => ⟨_, by omega, rfl, hlt, h'⟩, fun x H3 yx => ?_⟩
        obtain ⟨le, rx⟩ := hy x H3 yx
        have P23 : Post K ι2 s2 (L2.wipe σ vs) H2 ι2 s2 H3 := Post.more R2 le
        refine ⟨ι2, s2, w.ds[i], P23.rel, rx, ?_⟩
        rw [e3]
        intro ι4 σ4 H4 S4 R4 f4 l4
        have ew4 : L2.wipe σ4 vs = L2.wipe σ vs := by
          have : L2.wipe σ4 vs = L2.wipe (L2.wipe σ vs) vs := lwipe_eq l4 fun j hj => f4 j fun hj' => hj (hsl j hj')
          rw [this]
          exact lwipe_eq (L2.wipe_length _ _) fun j hj => wipe_out hj
        refine ⟨ew4, ι4, s3, R4, ?_⟩
        rw [e4]
        intro ι5 H5 P5
        have S5 : Stp ι2 s2 (L2.wipe σ vs) H2 ι5 s4 σ4 H5 := (P23.stp.trans S4).trans P5.stp
        rcases rest with ⟨rfl, w1, s6, acc', s7, h6, hno, h7, go'⟩ | ⟨rfl, go'⟩
        · rw [if_pos rfl]
          refine ⟨ι5, s4, P5.rel, ?_⟩
          rw [h6]
          intro ι6 H6 J1 P6 JO1
          have S6 : Stp ι2 s2 (L2.wipe σ vs) H2 ι6 s6 σ4 H6 := S5.trans P6.stp
          have hD6 : H6 D0 = some (.lst vacc) := S6.frame D0 _ hD2 lD
          have lD6 : Loose ι6 s6 σ4 D0 := S6.loose hD2 lD
          refine lc_loop (Ex' := Ex') hsl1 hno JO1 P6.rel (S.trans S6) hD hD6 (ra.keep (S6.keeps R2)) lD6 h7 fun ι7 vaccF H7 S7 R7 hD7 ra7 lD7 => ?_
          have Rx := R7.wiped vs
          have ew7 : L2.wipe (L2.wipe σ4 vs1) vs = L2.wipe σ vs := by
            rw [← ew4]
            exact lwipe_eq (L2.wipe_length _ _) fun j hj => wipe_out fun hj' => hj (hvv j hj')
          rw [ew7] at Rx
          exact ⟨ι7, { s7 with sl := wipe vs s7.sl }, acc', vaccF, S7.trans Rx.2, Rx.1, hD7, ra7, Rx.2.loose hD7 lD7, go'⟩
        · rw [if_neg Bool.false_ne_true]
          have Rx := P5.rel.wiped vs
          rw [ew4] at Rx
          exact ⟨ι5, { s4 with sl := wipe vs s4.sl }, acc, vacc, (S.trans S5).trans Rx.2, Rx.1, S5.frame D0 _ hD2 lD, ra.keep (S5.keeps R2), Rx.2.loose (S5.frame D0 _ hD2 lD) (S5.loose hD2 lD), go'⟩
      · left
        have e : i = w.ds.length := by omega
        subst e
        rw [List.drop_length] at go
        obtain ⟨hsm, rfl, rfl⟩ := lcGo2_nil go
        refine ⟨JO.stop P1.rel (Sw.trans S) R2 (live hsm) hsm, ?_⟩
        have PF := P1.rel.unwiped S R2
        refine q ι2 _ H2 (P1.trans PF) ⟨D0, rfl, ⟨vacc, hD2, ra⟩, fun _ => ?_⟩ fun _ a ea => ?_
        · intro x n hx
          cases m : n.mut with
          | false => rfl
          | true =>
            cases hx with
            | cell h1 h2 => rw [lD _ _ (.cell h1 h2)] at m; cases m
            | slot h1 h2 =>
              rename_i j
              have h1 : (unwipe vs s1.sl sF.sl)[j]? = some (.own n) := h1
              by_cases hj : j ∈ vs
              · by_cases hl : j < sF.sl.length
                · rw [unwipe_in hj hl] at h1
                  have hl1 : j < s1.sl.length := by
                    have a1 := R2.slen
                    have a2 := P1.rel.slen
                    rw [L2.wipe_length] at a1
                    omega
                  have h1' : s1.sl[j]? = some (.own n) := by
                    rw [List.getElem?_eq_getElem hl1]
                    rw [List.getD_eq_getElem?_getD, List.getElem?_eq_getElem hl1] at h1
                    exact h1
                  obtain ⟨o, eo, _⟩ := (P1.rel.ok _ _ _ (.slot h1' h2)).some m
                  rw [hD] at eo; cases eo
                · rw [List.getElem?_eq_none (by rw [unwipe_len]; omega)] at h1; cases h1
              · rw [unwipe_notin hj] at h1
                rw [lD _ _ (.slot h1 (by rw [wipe_out hj]; exact h2))] at m; cases m
        · cases ea
          exact P1.stp.none hD
theorem pem_lc2 {elt tg iter tg1 iter1 : Expr} {ifs ifs1 : List Expr} {scope : Scope} {own : List (Str × Nat)} {vs1 : List Nat} {pos : Pos} {t t1 : Tg} {msrc msrc1 : M Walk} {melt : M Opd} {mifs mifs1 : M Bool} (hc : X.calm = true) (hN : X.N.Nodup) (hi : PIm X Ex tg iter msrc) (ok : BlkOk X.N X.env.scope scope own)
    (hsl : ∀ i ∈ t.slots, i ∈ own.map (·.2)) (hsl1 : ∀ i ∈ t1.slots, i ∈ vs1) (hvv : ∀ i ∈ vs1, i ∈ own.map (·.2))
    (hg : ∀ (s : Shared) (H : Hp) (C : Addr) (cl : List (Str × Addr)) (fp : List Addr), PG (X.blk s H scope (compEnvC scope cl C X.env) fp) tg (tG X.K t)) (ht : ∀ (s : Shared) (H : Hp) (C : Addr) (cl : List (Str × Addr)) (fp : List Addr), PTs (X.blk s H scope (compEnvC scope cl C X.env) fp) ifs (tT X.K Ex' mifs))
    (hi1 : ∀ (s : Shared) (H : Hp) (C : Addr) (cl : List (Str × Addr)) (fp : List Addr), PIm (X.blk s H scope (compEnvC scope cl C X.env) fp) Ex' tg1 iter1 msrc1)
    (hg1 : ∀ (s : Shared) (H : Hp) (C : Addr) (cl : List (Str × Addr)) (fp : List Addr), PG (X.blk s H scope (compEnvC scope cl C X.env) fp) tg1 (tG X.K t1)) (ht1 : ∀ (s : Shared) (H : Hp) (C : Addr) (cl : List (Str × Addr)) (fp : List Addr), PTs (X.blk s H scope (compEnvC scope cl C X.env) fp) ifs1 (tT X.K Ex' mifs1))
    (he : ∀ (s : Shared) (H : Hp) (C : Addr) (cl : List (Str × Addr)) (fp : List Addr), PE (X.blk s H scope (compEnvC scope cl C X.env) fp) elt (tE X.K Ex' melt)) (hs : ∀ x, foldedSetIterable iter X.env x = pure x) (hs1 : ∀ env x, foldedSetIterable iter1 env x = pure x) :
    PEm X Ex (.ListComp elt [⟨tg, iter, ifs, 0⟩, ⟨tg1, iter1, ifs1, 0⟩] scope pos) (mLc2 (own.map (·.2)) vs1 melt t msrc mifs t1 msrc1 mifs1) :=
  pe_weak (pe_lc2 hc hN hi ok hvv hg ht hi1 hg1 ht1 he hs hs1) fun σ H Q h => lc2_weak hsl hsl1 hvv h
end
end Y

/-! Y11: calls of one's own functions. -/
set_option linter.all false
set_option maxRecDepth 100000
set_option Elab.async false
set_option autoImplicit false
set_option maxHeartbeats 1000000
namespace Y
open PySem PySem.Spec L2
section
variable {K : Frag} {ι ι' : List Addr} {s s' : St} {σ σ' : L2.St} {H H' : Hp} {hp hp' : List Node}
/-- the cells alone -/
abbrev cel (hp : List Node) : St := ⟨[], hp⟩
abbrev noσ : L2.St := []
theorem At.cells {x : Hold} {a : Addr} {n : Node} (h : At ι (cel hp) noσ x a n) : ∃ l, x = .inr l ∧ hp[l]? = some n ∧ ι[l]? = some a := by
  cases h with
  | cell h1 h2 => exact ⟨_, rfl, h1, h2⟩
  | slot h1 h2 => cases h2
theorem At.full {x : Hold} {a : Addr} {n : Node} (h : At ι (cel s.hp) noσ x a n) : At ι s σ x a n := by
  obtain ⟨l, rfl, h1, h2⟩ := h.cells
  exact .cell h1 h2
theorem Loose.cells {a : Addr} (h : Loose ι s σ a) : Loose ι (cel s.hp) noσ a := fun x n hx => h x n hx.full
theorem Rel.cells (R : Rel K ι s σ H) : Rel K ι (cel s.hp) noσ H :=
  ⟨R.hlen, rfl, fun x a n h => R.ok x a n (At.full h), fun i d e => by simp [cel] at e, fun i n e => by simp [cel] at e, fun x y a n n' h h' => R.uniq x y a n n' (At.full h) (At.full h')⟩
/-- behind a call the caller's slots are as they were -/
theorem call_post (R : Rel K ι s σ H) (P : Post K ι (cel s.hp) noσ H ι' (cel hp') H') : Post K ι s σ H ι' { s with hp := hp' } H' := by
  have kp : Keeps ι H ι' H' := P.stp.keeps R.cells
  have nl : ∀ {a}, ¬ Loose ι (cel s.hp) noσ a → ¬ Loose ι s σ a := fun h l => h l.cells
  have old : ∀ {x a n}, At ι' { s with hp := hp' } σ x a n → (∃ i, x = .inl i ∧ At ι s σ x a n) ∨ At ι' (cel hp') noσ x a n := fun {x a n} h => by
    cases h with
    | cell h1 h2 => exact .inr (.cell h1 h2)
    | slot h1 h2 => exact .inl ⟨_, rfl, .slot h1 h2⟩
  have apart : ∀ {i a n}, At ι s σ (.inl i) a n → n.mut = true → Loose ι (cel s.hp) noσ a := fun {i a n} h m y n2 hy => by
    cases m2 : n2.mut with
    | false => rfl
    | true =>
      obtain ⟨l, rfl, _, _⟩ := hy.cells
      cases R.uniq _ _ _ _ _ h hy.full m m2
  have clash : ∀ {i a n z n2}, At ι s σ (.inl i) a n → n.mut = true → At ι' (cel hp') noσ z a n2 → n2.mut = true → False := fun {i a n z n2} h m hz m2 => by
    rcases P.stp.fresh _ _ _ hz m2 with q | q
    · exact q (apart h m)
    · obtain ⟨o, e, _⟩ := (R.ok _ _ _ h).some m
      rw [e] at q; cases q
  refine ⟨⟨P.stp.pre, fun a o e l => P.stp.frame a o e l.cells, fun x a n h m => ?_, P.stp.there, P.stp.stay⟩, P.rel.hlen, R.slen, fun x a n h => ?_, fun i d e => ?_, R.own, fun x y a n n' h h' m m' => ?_⟩
  · rcases old h with ⟨i, rfl, h⟩ | h
    · exact .inl fun l => by rw [l _ _ h] at m; cases m
    · rcases P.stp.fresh _ _ _ h m with q | q
      · exact .inl (nl q)
      · exact .inr q
  · rcases old h with ⟨i, rfl, h⟩ | h
    · refine (R.ok _ _ _ h).keep kp fun m => ?_
      obtain ⟨o, e, _⟩ := (R.ok _ _ _ h).some m
      rw [e, P.stp.frame _ _ e (apart h m)]
    · exact P.rel.ok _ _ _ h
  · obtain ⟨v, h1, h2⟩ := R.slot i d e
    exact ⟨v, h1, h2.keep kp⟩
  · rcases old h with ⟨i, rfl, h⟩ | h
    · rcases old h' with ⟨j, rfl, h'⟩ | h'
      · exact R.uniq _ _ _ _ _ h h' m m'
      · exact (clash h m h' m').elim
    · rcases old h' with ⟨j, rfl, h'⟩ | h'
      · exact (clash h' m' h m).elim
      · exact P.rel.uniq _ _ _ _ _ h h' m m'
/-- .. and what came back is a temporary -/
theorem call_opd (R : Rel K ι s σ H) {v : V} {r : RV} (k : OpdOk K H' ι' (cel hp') noσ v r.opd) (n : NewOk H v r.opd) : OpdOk K H' ι' { s with hp := hp' } σ v r.opd := by
  cases r with
  | val d => exact k
  | node nd =>
    obtain ⟨a, rfl, h, l⟩ := k
    refine ⟨a, rfl, h, fun m x n2 hx => ?_⟩
    cases m2 : n2.mut with
    | false => rfl
    | true =>
      cases hx with
      | cell h1 h2 => rw [l m _ _ (.cell h1 h2)] at m2; cases m2
      | slot h1 h2 =>
        have hx : At ι s σ (.inl _) a n2 := .slot h1 h2
        obtain ⟨o, e, _⟩ := (R.ok _ _ _ hx).some m2
        rw [n m a rfl] at e; cases e
end
/-- how an exception lies: its class, its own dict -/
abbrev XRT := Exn → Value → Option Addr → List Addr → Hp → Prop
/-- a function's promise -/
def spD (K : Frag) (XR : XRT) (n : Nat) (f : FnD) : Sp := fun vs H Q E => vs.length = n ∧ ∃ ι h ds, Rel K ι (cel h) noσ H ∧ Reps K H ι vs ds ∧ match f ds h with
  | .ret r h' => ∀ ι' v H', Post K ι (cel h) noσ H ι' (cel h') H' → OpdOk K H' ι' (cel h') noσ v r.opd → NewOk H v r.opd → Q v H'
  | .exc x h' => ∀ ι' H' c o, Post K ι (cel h) noσ H ι' (cel h') H' → XR x c o ι' H' → E c o H'
  | .stuck => False
/-- no exceptions -/
def XR0 : XRT := fun _ _ _ _ _ => False
section
variable {X : Cx} {Ex : ExP} {CX : CXT} {k n : Nat} {f : Addr} {fd : FuncData} {ps : List Str} {fn : FnD} {x : Str} {p pos : Pos} {e : Expr} {es : List Expr} {md : M (List D)} {XR : XRT} {E : XK}
theorem call_sp {K : Frag} {σ : L2.St} {H : Hp} {Q : VK} (hE : ∀ x ι' s' H', Ex.hit x ι' s' σ H' → ∀ c o, XR x c o ι' H' → E c o H') (hl : ∀ s ds s', md s = .ok ds s' → ds.length = n) (h : tE K Ex (M.bind md (callF fn)) σ H Q) : tD K Ex md σ H fun vs H1 => spD K XR n fn vs H1 Q E := by
  obtain ⟨ι, s, R, q⟩ := h
  obtain ⟨ι', s', R', q'⟩ := tD_next (.refl R) q
  refine ⟨ι', s', R', ?_⟩
  cases em : md s' with
  | exc x s2 => rw [em] at q'; exact q'
  | stuck => rw [em] at q'; exact q'
  | ok ds s2 =>
    rw [em] at q'
    have hln := hl _ _ _ em
    intro ι2 vs H2 P2 k2
    obtain ⟨ι3, s3, ds3, P3, _, k3, q3⟩ := q' ι2 vs H2 P2 k2
    refine ⟨k2.length.trans hln, ι3, s3.hp, ds3, P3.rel.cells, k3, ?_⟩
    cases ef : fn ds3 s3.hp with
    | stuck =>
      have : callF fn ds3 s3 = .stuck := by unfold callF; rw [ef]
      rw [this] at q3; exact q3.elim
    | exc x h' =>
      have ec : callF fn ds3 s3 = .exc x { s3 with hp := h' } := by unfold callF; rw [ef]
      rw [ec] at q3
      intro ι4 H4 c o P4 xr
      exact hE x ι4 _ H4 (q3.2 ι4 H4 (P3.trans (call_post P3.rel P4))) c o xr
    | ret r h' =>
      have ec : callF fn ds3 s3 = .ok r.opd { s3 with hp := h' } := by unfold callF; rw [ef]
      rw [ec] at q3
      intro ι4 v H4 P4 k4 n4
      exact q3 ι4 v H4 (P3.trans (call_post P3.rel P4)) (call_opd P3.rel k4 n4) (n4.back P3.stp)
/-- f(e, ..) -/
theorem pem_call (F : FnOk X.prog X.w X.K X.mg X.base CX k f fd ps (spD X.K XR n fn)) (hr : Room k X.A) (hg : Gl X x) (hm : X.mg x = some (.ref f)) (hk : PySem.W.keepIn X.K (.ref f) = true) (hb : Binds X.K fd ps []) (hx : Passes CX X E)
    (hE : ∀ x ι' s' σ H', Ex.hit x ι' s' σ H' → ∀ c o, XR x c o ι' H' → E c o H')
    (hl : ∀ s ds s', md s = .ok ds s' → ds.length = n) (ha : PAd X Ex (e :: es) md) (hdb : (x == ("__debug__" : Str)) = false) (he : starEach (e :: es) X.env = (false, eval e X.env) :: starEach es X.env) (hpl : (backTo pos (starEach es X.env)).any (·.1) = false) :
    PEm X Ex (.Call (.Name x p) (e :: es) [] pos) (M.bind md (callF fn)) := by
  refine pe_weak (pe_call (dvs := []) (E := E) F hr hg hm hk hb .nil hx ha hdb he hpl) fun σ H Q h => ?_
  obtain ⟨ι, s, R, q⟩ := call_sp (E := E) (XR := XR) (fun x ι' s' H' => hE x ι' s' σ H') hl h
  exact ⟨ι, s, R, q.imp fun ds s2 b ι2 vs H2 P2 k2 => by show spD _ _ _ _ (vs ++ []) H2 Q E; rw [List.append_nil]; exact b ι2 vs H2 P2 k2⟩
/-- f() -/
theorem pem_call0 (F : FnOk X.prog X.w X.K X.mg X.base CX k f fd ps (spD X.K XR 0 fn)) (hr : Room k X.A) (hg : Gl X x) (hm : X.mg x = some (.ref f)) (hk : PySem.W.keepIn X.K (.ref f) = true) (hb : Binds X.K fd ps []) (hx : Passes CX X E)
    (hE : ∀ x ι' s' σ H', Ex.hit x ι' s' σ H' → ∀ c o, XR x c o ι' H' → E c o H') (hdb : (x == ("__debug__" : Str)) = false) :
    PEm X Ex (.Call (.Name x p) [] [] pos) (M.bind (mDs []) (callF fn)) := by
  refine pe_weak (pe_call0 (dvs := []) (E := E) F hr hg hm hk hb .nil hx hdb) fun σ H Q h => ?_
  obtain ⟨ι, s, R, q⟩ := call_sp (E := E) (XR := XR) (fun x ι' s' H' => hE x ι' s' σ H') (n := 0) (fun s ds s' h => by cases h; rfl) h
  exact q ι [] H (.refl R) .nil
end
end Y

/-! Y12: statements. -/
set_option linter.all false
set_option maxRecDepth 100000
set_option Elab.async false
set_option autoImplicit false
set_option maxHeartbeats 1000000
namespace Y
open PySem PySem.Spec L2
/-- what a statement leaves -/
structure PostS (K : Frag) (ι : List Addr) (s : St) (σ : L2.St) (H : Hp) (ι' : List Addr) (s' : St) (σ' : L2.St) (H' : Hp) : Prop where
  stp : Stp ι s σ H ι' s' σ' H'
  rel : Rel K ι' s' σ' H'
section
variable {K : Frag} {ι ι1 ι2 : List Addr} {s s1 s2 : St} {σ σ1 σ2 : L2.St} {H H1 H2 : Hp} {Ex : ExP} {En : Ends}
theorem Post.toS (P : Post K ι s σ H ι1 s1 H1) : PostS K ι s σ H ι1 s1 σ H1 := ⟨P.stp, P.rel⟩
theorem PostS.refl (R : Rel K ι s σ H) : PostS K ι s σ H ι s σ H := ⟨.refl, R⟩
theorem PostS.trans (a : PostS K ι s σ H ι1 s1 σ1 H1) (b : PostS K ι1 s1 σ1 H1 ι2 s2 σ2 H2) : PostS K ι s σ H ι2 s2 σ2 H2 := ⟨a.stp.trans b.stp, b.rel⟩
/-- what is handed back: a slot had it, or it was made since -/
def Held (H : Hp) (ι' : List Addr) (s' : St) (σ' : L2.St) (v : V) : RV → Prop
  | .val _ => True
  | .node n => n.mut = true → ∀ a, v = .ref a → (∃ i, At ι' s' σ' (.inl i) a n) ∨ H a = none
structure RetOk (K : Frag) (H : Hp) (ι' : List Addr) (s' : St) (σ' : L2.St) (v : V) (r : RV) (H' : Hp) : Prop where
  opd : OpdOk K H' ι' (cel s'.hp) noσ v r.opd
  held : Held H ι' s' σ' v r
theorem RetOk.back {s' : St} {ι' : List Addr} {σ' : L2.St} {v : V} {r : RV} {H' : Hp} (k : RetOk K H1 ι' s' σ' v r H') (S : Stp ι s σ H ι1 s1 σ1 H1) : RetOk K H ι' s' σ' v r H' := by
  refine ⟨k.opd, ?_⟩
  have h := k.held
  cases r with
  | val d => trivial
  | node n => exact fun m a e => (h m a e).imp id fun z => S.none z
/-- a statement's outcome -/
def OutS (K : Frag) (ι : List Addr) (s : St) (σ : L2.St) (H : Hp) (Ex : ExP) (D : Ends) : Res Fl → Prop
  | .ok .next s' => ∀ ι' σ' H', PostS K ι s σ H ι' s' σ' H' → D.nx σ' H'
  | .ok .brk s' => ∀ ι' σ' H', PostS K ι s σ H ι' s' σ' H' → D.bk σ' H'
  | .ok .cont s' => ∀ ι' σ' H', PostS K ι s σ H ι' s' σ' H' → D.ct σ' H'
  | .ok (.ret r) s' => ∀ ι' σ' v H', PostS K ι s σ H ι' s' σ' H' → RetOk K H ι' s' σ' v r H' → D.rt v H'
  | .exc x s' => Ex.on ∧ ∀ ι' σ' H', PostS K ι s σ H ι' s' σ' H' → Ex.hit x ι' s' σ' H'
  | .stuck => False
def tS (K : Frag) (Ex : ExP) (m : M Fl) : TS := fun En σ H => ∃ ι s, Rel K ι s σ H ∧ OutS K ι s σ H Ex En (m s)
theorem OutS.later (P : PostS K ι s σ H ι1 s1 σ1 H1) {r : Res Fl} (q : OutS K ι s σ H Ex En r) : OutS K ι1 s1 σ1 H1 Ex En r := by
  cases r with
  | ok f s' =>
    cases f with
    | next => exact fun ι' σ' H' P' => q ι' σ' H' (P.trans P')
    | brk => exact fun ι' σ' H' P' => q ι' σ' H' (P.trans P')
    | cont => exact fun ι' σ' H' P' => q ι' σ' H' (P.trans P')
    | ret r => exact fun ι' σ' v H' P' k => q ι' σ' v H' (P.trans P') (k.back P.stp)
  | exc x s' => exact ⟨q.1, fun ι' σ' H' P' => q.2 ι' σ' H' (P.trans P')⟩
  | stuck => exact q
theorem tS_later (P : PostS K ι s σ H ι1 s1 σ1 H1) {m : M Fl} (q : OutS K ι s σ H Ex En (m s1)) : tS K Ex m En σ1 H1 := ⟨ι1, s1, P.rel, q.later P⟩
/-- an expression is met, then the rest -/
theorem exS {m : M Opd} {g : Opd → M Fl} (P : PostS K ι s σ H ι1 s1 σ1 H1) (q : OutS K ι s σ H Ex En (M.bind m g s1)) :
    tE K Ex m σ1 H1 fun v H2 => ∃ ι2 s2 o, PostS K ι s σ H ι2 s2 σ1 H2 ∧ Post K ι1 s1 σ1 H1 ι2 s2 H2 ∧ OpdOk K H2 ι2 s2 σ1 v o ∧ NewOk H1 v o ∧ OutS K ι s σ H Ex En (g o s2) := by
  refine ⟨ι1, s1, P.rel, ?_⟩
  unfold M.bind at q
  cases e : m s1 with
  | ok o s2 => rw [e] at q; exact fun ι2 v H2 P2 k n => ⟨ι2, s2, o, P.trans P2.toS, P2, k, n, q⟩
  | exc x s2 => rw [e] at q; exact ⟨q.1, fun ι2 H2 P2 => q.2 ι2 σ1 H2 (P.trans P2.toS)⟩
  | stuck => rw [e] at q; exact q.elim
theorem exT {m : M Bool} {g : Bool → M Fl} (P : PostS K ι s σ H ι1 s1 σ1 H1) (q : OutS K ι s σ H Ex En (M.bind m g s1)) :
    tT K Ex m σ1 H1 fun b H2 => ∃ ι2 s2, PostS K ι s σ H ι2 s2 σ1 H2 ∧ OutS K ι s σ H Ex En (g b s2) := by
  refine ⟨ι1, s1, P.rel, ?_⟩
  unfold M.bind at q
  cases e : m s1 with
  | ok o s2 => rw [e] at q; exact fun ι2 H2 P2 => ⟨ι2, s2, P.trans P2.toS, q⟩
  | exc x s2 => rw [e] at q; exact ⟨q.1, fun ι2 H2 P2 => q.2 ι2 σ1 H2 (P.trans P2.toS)⟩
  | stuck => rw [e] at q; exact q.elim
theorem drop_eq (m : M Opd) : Y.drop m = M.bind m fun _ => M.pure .next := by
  funext s; unfold Y.drop M.bind M.pure; cases m s <;> rfl
theorem thenN_eq (m : M Unit) : thenN m = M.bind m fun _ => M.pure .next := by
  funext s; unfold thenN M.bind M.pure; cases m s <;> rfl
theorem bind_assoc' {α β γ : Type} (m : M α) (f : α → M β) (g : β → M γ) : M.bind (M.bind m f) g = M.bind m fun a => M.bind (f a) g := by
  funext s; unfold M.bind; cases m s <;> rfl
/-! ### stores of slots -/
theorem set_same {σ : L2.St} {i : Nat} {v : V} (h : σ[i]? = some (some v)) : σ.set i (some v) = σ := by
  apply List.ext_getElem?
  intro j
  by_cases e : i = j
  · subst e
    rw [List.getElem?_set_self (List.getElem?_eq_some_iff.mp h).1, h]
  · rw [List.getElem?_set_ne e]
theorem Rel.setOwn (R : Rel K ι s σ H) {i : Nat} {a : Addr} {n : Node} (hi : i < s.sl.length) (ok : NodeOk K H ι a n) (l : n.mut = true → Loose ι s σ a) :
    Rel K ι { s with sl := s.sl.set i (.own n) } (σ.set i (some (.ref a))) H ∧ ∀ {ιa : List Addr} {sa : St} {σa : L2.St} {Ha : Hp}, Stp ιa sa σa Ha ι s σ H → (n.mut = true → Ha a = none) → Stp ιa sa σa Ha ι { s with sl := s.sl.set i (.own n) } (σ.set i (some (.ref a))) H := by
  have hiσ : i < σ.length := by rw [← R.slen]; exact hi
  have at_ : ∀ {x b n2}, At ι { s with sl := s.sl.set i (.own n) } (σ.set i (some (.ref a))) x b n2 → (x = .inl i ∧ b = a ∧ n2 = n) ∨ (x ≠ .inl i ∧ At ι s σ x b n2) := fun {x b n2} h => by
    cases h with
    | cell h1 h2 => exact .inr ⟨(by intro z; cases z), .cell h1 h2⟩
    | slot h1 h2 =>
      rename_i j
      have h1 : (s.sl.set i (.own n))[j]? = some (.own n2) := h1
      by_cases e : i = j
      · subst e
        rw [List.getElem?_set_self hi] at h1
        rw [List.getElem?_set_self hiσ] at h2
        cases h1; cases h2
        exact .inl ⟨rfl, rfl, rfl⟩
      · rw [List.getElem?_set_ne e] at h1 h2
        exact .inr ⟨fun z => e (Sum.inl.inj z).symm, .slot h1 h2⟩
  refine ⟨⟨R.hlen, by simp [R.slen], fun x b n2 h => ?_, fun j d e => ?_, fun j n2 e => ?_, fun x y b n2 n3 hx hy m2 m3 => ?_⟩, fun {ιa sa σa Ha} S nw => ⟨S.pre, S.frame, fun x b n2 h m => ?_, S.there, S.stay⟩⟩
  · rcases at_ h with ⟨_, rfl, rfl⟩ | ⟨_, h⟩
    · exact ok
    · exact R.ok x b n2 h
  · have e : (s.sl.set i (.own n))[j]? = some (.val d) := e
    by_cases eij : i = j
    · subst eij; rw [List.getElem?_set_self hi] at e; cases e
    · rw [List.getElem?_set_ne eij] at e
      obtain ⟨v, h1, h2⟩ := R.slot j d e
      exact ⟨v, by rw [List.getElem?_set_ne eij]; exact h1, h2⟩
  · have e : (s.sl.set i (.own n))[j]? = some (.own n2) := e
    by_cases eij : i = j
    · subst eij; exact ⟨a, List.getElem?_set_self hiσ⟩
    · rw [List.getElem?_set_ne eij] at e
      obtain ⟨v, h1⟩ := R.own j n2 e
      exact ⟨v, by rw [List.getElem?_set_ne eij]; exact h1⟩
  · rcases at_ hx with ⟨rfl, rfl, rfl⟩ | ⟨nx, hx2⟩
    · rcases at_ hy with ⟨rfl, _, rfl⟩ | ⟨ny, hy2⟩
      · rfl
      · rw [l m2 _ _ hy2] at m3; cases m3
    · rcases at_ hy with ⟨rfl, rfl, rfl⟩ | ⟨ny, hy2⟩
      · rw [l m3 _ _ hx2] at m2; cases m2
      · exact R.uniq _ _ _ _ _ hx2 hy2 m2 m3
  · rcases at_ h with ⟨rfl, rfl, rfl⟩ | ⟨_, h⟩
    · exact .inr (nw m)
    · exact S.fresh x b n2 h m
theorem stO_ok {i : Nat} {v : V} {o : Opd} {z : Unit} (R : Rel K ι1 s1 σ1 H1) (k : OpdOk K H1 ι1 s1 σ1 v o) (e : stO i o s1 = .ok z s2) :
    ∃ ι2, ∀ {ιa : List Addr} {sa : St} {σa : L2.St} {Ha : Hp}, PostS K ιa sa σa Ha ι1 s1 σ1 H1 → NewOk Ha v o → PostS K ιa sa σa Ha ι2 s2 (σ1.set i (some v)) H1 := by
  unfold stO at e
  split at e
  · rename_i hi
    split at e
    · rename_i d
      cases e
      obtain ⟨R2, S2⟩ := R.setVal hi k
      exact ⟨ι1, fun P _ => ⟨P.stp.trans S2, R2⟩⟩
    · rename_i n
      cases e
      obtain ⟨a, rfl, ok, l⟩ := k
      obtain ⟨R2, S2⟩ := R.setOwn hi ok l
      exact ⟨ι1, fun P nw => ⟨S2 P.stp fun m => nw m a rfl, R2⟩⟩
    · rename_i j
      split at e
      · rename_i d ed
        cases e
        obtain ⟨v', hv', r⟩ := R.slot _ _ ed
        have hv : σ1[j]? = some (some v) := k
        rw [hv'] at hv; cases hv
        obtain ⟨R2, S2⟩ := R.setVal hi r
        exact ⟨ι1, fun P _ => ⟨P.stp.trans S2, R2⟩⟩
      · rename_i n en
        split at e
        · rename_i eij
          subst eij
          cases e
          have hv : σ1[i]? = some (some v) := k
          rw [set_same hv]
          exact ⟨ι1, fun P _ => P⟩
        · cases e
          have et : toD (.own j) s1 = .ok (.ref s1.hp.length) { sl := s1.sl.set j (.val (.ref s1.hp.length)), hp := s1.hp ++ [n] } := by
            show (match s1.sl[j]? with | some (.own n) => _ | some (.val d) => _ | _ => _) = _
            rw [en]
          obtain ⟨ι2, r, f⟩ := toD_ok R k et
          have P2 := f (.refl R) trivial
          obtain ⟨R3, S3⟩ := P2.rel.setVal (i := i) (by simpa using hi) r
          exact ⟨ι2, fun P _ => ⟨(P.stp.trans P2.stp).trans S3, R3⟩⟩
      · cases e
  · cases e
theorem stO_noexc {i : Nat} {o : Opd} {s : St} {x : Exn} {s' : St} : stO i o s ≠ .exc x s' := by
  unfold stO
  repeat' split
  all_goals (intro h; cases h)
/-- .. and the rest -/
theorem stS {i : Nat} {v : V} {o : Opd} (P : PostS K ι s σ H ι1 s1 σ1 H1) (k : OpdOk K H1 ι1 s1 σ1 v o) (n : NewOk H v o) (q : OutS K ι s σ H Ex En (M.bind (stO i o) (fun _ => M.pure .next) s1)) : En.nx (σ1.set i (some v)) H1 := by
  unfold M.bind at q
  cases e : stO i o s1 with
  | ok z s2 =>
    rw [e] at q
    obtain ⟨ι2, f⟩ := stO_ok P.rel k e
    exact q ι2 _ H1 (f P n)
  | exc x s2 => exact (stO_noexc e).elim
  | stuck => rw [e] at q; exact q.elim
theorem NewOk.backS {v : V} {o : Opd} (n : NewOk H1 v o) (S : Stp ι s σ H ι1 s1 σ1 H1) : NewOk H v o := by
  cases o with
  | tmp x => exact fun m a e => S.none (n m a e)
  | _ => trivial
/-! ### what is handed back -/
theorem rvO_ok {v : V} {o : Opd} {r : RV} (R : Rel K ι1 s1 σ1 H1) (k : OpdOk K H1 ι1 s1 σ1 v o) (n : NewOk H v o) (e : rvO o s1 = .ok r s2) : s2 = s1 ∧ RetOk K H ι1 s1 σ1 v r H1 := by
  unfold rvO at e
  split at e
  · cases e; exact ⟨rfl, k, trivial⟩
  · cases e
    obtain ⟨a, rfl, ok, l⟩ := k
    exact ⟨rfl, ⟨a, rfl, ok, fun m => (l m).cells⟩, fun m b e => by cases e; exact .inr (n m a rfl)⟩
  · rename_i i
    have hv : σ1[i]? = some (some v) := k
    split at e
    · rename_i nd en
      cases e
      obtain ⟨a, ha⟩ := R.own _ _ en
      rw [ha] at hv; cases hv
      refine ⟨rfl, ⟨a, rfl, R.ok _ _ _ (.slot en ha), fun m x n2 hx => ?_⟩, fun m b e => by cases e; exact .inl ⟨i, .slot en ha⟩⟩
      cases m2 : n2.mut with
      | false => rfl
      | true =>
        obtain ⟨l, rfl, _, _⟩ := hx.cells
        cases R.uniq _ _ _ _ _ (.slot en ha) hx.full m m2
    · rename_i d ed
      cases e
      obtain ⟨v', hv', r⟩ := R.slot _ _ ed
      rw [hv'] at hv; cases hv
      exact ⟨rfl, r, trivial⟩
    · cases e
theorem rvO_noexc {o : Opd} {s : St} {x : Exn} {s' : St} : rvO o s ≠ .exc x s' := by
  unfold rvO
  repeat' split
  all_goals (intro h; cases h)
/-! ### while -/
theorem tWhl {c : M Bool} {body : M Fl} (h : tS K Ex (mWhl c body) En σ H) : tWhile (tT K Ex c) (tS K Ex body) En σ H := by
  obtain ⟨ι, s, R, q⟩ := h
  have hne : mWhl c body s ≠ .stuck := fun e => by rw [e] at q; exact q
  obtain ⟨n, hn⟩ := mWhl_some hne
  revert q hn
  generalize mWhl c body s = r
  intro q hn
  refine ⟨fun m σ1 H1 => ∃ ι1 s1, PostS K ι s σ H ι1 s1 σ1 H1 ∧ whlGo c body m s1 = some r, ⟨n, ι, s, .refl R, hn⟩, ?_⟩
  rintro m σ1 H1 ⟨ι1, s1, P1, go⟩
  cases m with
  | zero => simp [whlGo] at go
  | succ m =>
    refine ⟨ι1, s1, P1.rel, ?_⟩
    unfold whlGo at go
    cases ec : c s1 with
    | exc x s2 =>
      rw [ec] at go
      cases go
      exact ⟨q.1, fun ι2 H2 P2 => q.2 ι2 σ1 H2 (P1.trans P2.toS)⟩
    | stuck => rw [ec] at go; cases go; exact q.elim
    | ok b s2 =>
      rw [ec] at go
      intro ι2 H2 P2
      cases b with
      | false =>
        simp only at go
        cases go
        exact q ι2 σ1 H2 (P1.trans P2.toS)
      | true =>
        simp only at go
        refine ⟨fun σ' H' => ∃ ι' s', PostS K ι s σ H ι' s' σ' H' ∧ whlGo c body m s' = some r, fun σ' H' h => ⟨m, Nat.lt_succ_self m, h⟩, ι2, s2, P2.rel, ?_⟩
        have PB := P1.trans P2.toS
        cases eb : body s2 with
        | exc x s3 => rw [eb] at go; cases go; exact q.later PB
        | stuck => rw [eb] at go; cases go; exact q.elim
        | ok f s3 =>
          rw [eb] at go
          cases f with
          | next => exact fun ι3 σ3 H3 P3 => ⟨ι3, s3, PB.trans P3, go⟩
          | cont => exact fun ι3 σ3 H3 P3 => ⟨ι3, s3, PB.trans P3, go⟩
          | brk => cases go; exact fun ι3 σ3 H3 P3 => q ι3 σ3 H3 (PB.trans P3)
          | ret rv => cases go; exact q.later PB
/-! ### for -/
theorem settle_ok {w w' : Walk} {J : It} (P : Post K ι s σ H ι1 s1 H1) (JO : JOk K w J ι1 s1 σ H1) (e : settle w s1 = .ok w' s2) :
    ∃ ι2 v, Post K ι s σ H ι2 s2 H1 ∧ w'.ds = w.ds ∧ (∀ i xs, w'.live ≠ some (.own i, xs)) ∧ (∀ o xs, w'.live = some (o, xs) → OpdOk K H1 ι2 s2 σ v o) ∧ ∀ {ι3 s3 σ3 H3}, Stp ι2 s2 σ H1 ι3 s3 σ3 H3 → Rel K ι3 s3 σ3 H3 → (∀ o xs, w'.live = some (o, xs) → ∃ o2, OpdOk K H3 ι3 s3 σ3 v o2 ∧ lstOf o2 s3 = some xs) →
      (∀ (i : Nat) (d : D), w.ds[i]? = some d → J.go i H3 ∧ ∀ x H4, J.yld i H3 x H4 → (∀ a o, H3 a = some o → H4 a = some o) ∧ Rep K H4 ι3 x d) ∧ J.stop w.ds.length H3 := by
  obtain ⟨v, hv, go⟩ := JO.ex
  unfold settle at e
  split at e
  · rename_i i xs el
    cases et : toD (.own i) s1 with
    | ok d s' =>
      rw [et] at e
      cases e
      obtain ⟨ι2, r, f⟩ := toD_ok P.rel (hv _ _ el) et
      have P2 := f (.refl P.rel) trivial
      refine ⟨ι2, v, P.trans P2, rfl, (by intro i xs h; cases h), fun o xs eo => by cases eo; exact r, fun {ι3 s3 σ3 H3} S R3 h => go ((P2.stp.trans S).keeps P.rel) R3 fun o xs2 eo => ?_⟩
      rw [el] at eo
      cases eo
      exact h _ _ rfl
    | exc x s' => rw [et] at e; cases e
    | stuck => rw [et] at e; cases e
  · rename_i hno
    cases e
    exact ⟨ι1, v, P, rfl, hno, hv, fun {ι3 s3 σ3 H3} S R3 h => go (S.keeps P.rel) R3 h⟩
theorem settle_noexc {w : Walk} {s : St} {x : Exn} {s' : St} : settle w s ≠ .exc x s' := by
  unfold settle
  split
  · rename_i i xs _
    unfold toD
    cases e : s.sl[i]? with
    | none => simp [e]
    | some z => cases z <;> simp [e]
  · intro h; cases h
/-- how a loop ends -/
def forEnd : Res Fl → Res Fl
  | .ok .brk s => .ok .next s
  | r => r
theorem forGo_cons {w : Walk} {t : Tg} {body : M Fl} {d : D} {ds : List D} {s : St} {r : Res Fl} (h : forGo w t body (d :: ds) s = r) (hr : r ≠ .stuck) :
    w.same s = true ∧ ((∃ x s', t.put d s = .exc x s') ∨ ∃ z s0, t.put d s = .ok z s0 ∧ ((∃ s1, (body s0 = .ok .next s1 ∨ body s0 = .ok .cont s1) ∧ forGo w t body ds s1 = r) ∨ (∃ s1, body s0 = .ok .brk s1 ∧ r = .ok .next s1) ∨ (∃ v s1, body s0 = .ok (.ret v) s1 ∧ r = .ok (.ret v) s1) ∨ ∃ x s1, body s0 = .exc x s1 ∧ r = .exc x s1)) := by
  unfold forGo at h
  split at h
  · rename_i hs
    refine ⟨hs, ?_⟩
    cases ep : t.put d s with
    | exc x s' => exact .inl ⟨x, s', rfl⟩
    | stuck =>
      rw [bind_def, ep] at h
      exact (hr h.symm).elim
    | ok z s0 =>
      refine .inr ⟨z, s0, rfl, ?_⟩
      rw [bind_def, ep] at h
      simp only at h
      cases eb : body s0 with
      | exc x s1 => rw [eb] at h; exact .inr (.inr (.inr ⟨x, s1, rfl, h.symm⟩))
      | stuck => rw [eb] at h; exact (hr h.symm).elim
      | ok f s1 =>
        rw [eb] at h
        cases f with
        | next => exact .inl ⟨s1, .inl rfl, h⟩
        | cont => exact .inl ⟨s1, .inr rfl, h⟩
        | brk => exact .inr (.inl ⟨s1, rfl, h.symm⟩)
        | ret v => exact .inr (.inr (.inl ⟨v, s1, rfl, h.symm⟩))
  · exact (hr h.symm).elim
theorem forGo_nil {w : Walk} {t : Tg} {body : M Fl} {s : St} {r : Res Fl} (h : forGo w t body [] s = r) (hr : r ≠ .stuck) : w.same s = true ∧ r = .ok .next s := by
  unfold forGo at h
  split at h
  · rename_i hs; exact ⟨hs, h.symm⟩
  · exact (hr h.symm).elim
mutual
theorem put_noexc : ∀ {t : Tg} {d : D} {s : St} {x : Exn} {s' : St}, t.put d s ≠ .exc x s'
  | .name i, d, s, x, s', h => by
    simp only [Tg.put] at h
    split at h <;> cases h
  | .tup ts, d, s, x, s', h => by
    cases d with
    | tup ds => simp only [Tg.put] at h; exact puts_noexc h
    | _ => simp only [Tg.put] at h; cases h
theorem puts_noexc : ∀ {ts : List Tg} {ds : List D} {s : St} {x : Exn} {s' : St}, Tg.puts ts ds s ≠ .exc x s'
  | [], [], _, _, _, h => by simp only [Tg.puts] at h; cases h
  | [], _ :: _, _, _, _, h => by simp only [Tg.puts] at h; cases h
  | _ :: _, [], _, _, _, h => by simp only [Tg.puts] at h; cases h
  | t :: ts, d :: ds, s, x, s', h => by
    have h : M.bind (t.put d) (fun _ => Tg.puts ts ds) s = .exc x s' := by simp only [Tg.puts] at h; exact h
    unfold M.bind at h
    cases e : t.put d s with
    | ok z s1 => rw [e] at h; exact puts_noexc h
    | exc y s1 => exact put_noexc e
    | stuck => rw [e] at h; cases h
end
theorem tFor_of {t : Tg} {msrc : M Walk} {body : M Fl} (h : tS K Ex (M.bind msrc fun w => M.bind (settle w) fun w => forGo w t body w.ds) En σ H) : tFor (tI K Ex msrc) (tG K t) (tS K Ex body) En σ H := by
  obtain ⟨ι, s, R, q⟩ := h
  refine ⟨ι, s, R, ?_⟩
  unfold M.bind at q
  cases ew : msrc s with
  | exc x s1 => rw [ew] at q; exact ⟨q.1, fun ι2 H2 P2 => q.2 ι2 σ H2 P2.toS⟩
  | stuck => rw [ew] at q; exact q.elim
  | ok w s1 =>
    rw [ew] at q
    simp only at q
    intro ι1 H1 J P1 JO
    cases es : settle w s1 with
    | exc x s2 => exact (settle_noexc es).elim
    | stuck => rw [es] at q; exact q.elim
    | ok w' s2 =>
      rw [es] at q
      simp only at q
      obtain ⟨ι2, v, P2, ewd, hno, hv, go⟩ := settle_ok P1 JO es
      have hne : forGo w' t body w'.ds s2 ≠ .stuck := fun e => by rw [e] at q; exact q
      obtain ⟨r, hr⟩ : ∃ r, forGo w' t body w'.ds s2 = r := ⟨_, rfl⟩
      rw [hr] at q hne
      refine ⟨fun i m σ3 H3 => m = w.ds.length - i ∧ i ≤ w.ds.length ∧ ∃ ι3 s3, PostS K ι s σ H ι3 s3 σ3 H3 ∧ Stp ι2 s2 σ H1 ι3 s3 σ3 H3 ∧ forGo w' t body (w.ds.drop i) s3 = r, ⟨w.ds.length, by simp, Nat.zero_le _, ι2, s2, P2.toS, .refl, by rw [← ewd]; exact hr⟩, ?_⟩
      rintro i m σ3 H3 ⟨rfl, hil, ι3, s3, P3, S3, fg⟩
      have live : w'.same s3 = true → ∀ o xs, w'.live = some (o, xs) → ∃ o2, OpdOk K H3 ι3 s3 σ3 v o2 ∧ lstOf o2 s3 = some xs := fun hsm o xs eo =>
        ⟨o, live_later P2.rel (hv o xs eo) S3 (fun j ej => ((hno j xs) (ej ▸ eo)).elim), same_live eo hsm⟩
      by_cases hlt : i < w.ds.length
      · right
        rw [List.drop_eq_getElem_cons hlt] at fg
        obtain ⟨hsm, rest⟩ := forGo_cons fg hne
        obtain ⟨gg, _⟩ := go S3 P3.rel (live hsm)
        obtain ⟨hgo, hy⟩ := gg i _ (List.getElem?_eq_getElem hlt)
        refine ⟨hgo, fun σ4 H4 => ∃ ι4 s4, PostS K ι s σ H ι4 s4 σ4 H4 ∧ Stp ι2 s2 σ H1 ι4 s4 σ4 H4 ∧ forGo w' t body (w.ds.drop (i + 1)) s4 = r, fun σ4 H4 h4 => ⟨w.ds.length - (i + 1), by omega, rfl, hlt, h4⟩, fun x H4 yx => ?_⟩
        obtain ⟨le, rx⟩ := hy x H4 yx
        have P34 : Post K ι3 s3 σ3 H3 ι3 s3 H4 := Post.more P3.rel le
        refine ⟨ι3, s3, w.ds[i], P34.rel, rx, ?_⟩
        rcases rest with ⟨x, s', ep⟩ | ⟨z, s4, ep, rest⟩
        · exact (put_noexc ep).elim
        · rw [ep]
          intro ι5 σ5 H5 S5 R5 _ _
          have P5 : PostS K ι s σ H ι5 s4 σ5 H5 := ⟨(P3.stp.trans P34.stp).trans S5, R5⟩
          have S5' := (S3.trans P34.stp).trans S5
          refine ⟨ι5, s4, R5, ?_⟩
          rcases rest with ⟨s6, eb, fg'⟩ | ⟨s6, eb, er⟩ | ⟨rv, s6, eb, er⟩ | ⟨x6, s6, eb, er⟩
          · rcases eb with eb | eb <;> (rw [eb]; exact fun ι6 σ6 H6 P6 => ⟨ι6, s6, P5.trans P6, S5'.trans P6.stp, fg'⟩)
          · rw [eb]; subst er; exact fun ι6 σ6 H6 P6 => q ι6 σ6 H6 (P5.trans P6)
          · rw [eb]; subst er; exact q.later P5
          · rw [eb]; subst er; exact q.later P5
      · left
        have e : i = w.ds.length := by omega
        subst e
        rw [List.drop_length] at fg
        obtain ⟨hsm, rfl⟩ := forGo_nil fg hne
        obtain ⟨_, hst⟩ := go S3 P3.rel (live hsm)
        exact ⟨hst, q ι3 σ3 H3 P3⟩
end
end Y

/-! Y13: statements of the text, functions. -/
set_option linter.all false
set_option maxRecDepth 100000
set_option Elab.async false
set_option autoImplicit false
set_option maxHeartbeats 1000000
namespace Y
open PySem PySem.Spec L2
abbrev PSm (X : Cx) (Ex : ExP) (st : Stmt) (m : M Fl) : Prop := PS X st (tS X.K Ex m)
abbrev PSsm (X : Cx) (Ex : ExP) (sts : List Stmt) (m : M Fl) : Prop := PSs X sts (tS X.K Ex m)
section
variable {X : Cx} {Ex : ExP}
theorem ps_weak {st : Stmt} {t t' : TS} (h : PS X st t) (w : ∀ D σ H, t' D σ H → t D σ H) : PS X st t' := ⟨fun pins s σ H D I q => h.run pins s σ H D I (w D σ H q)⟩
theorem pss_weak {st : List Stmt} {t t' : TS} (h : PSs X st t) (w : ∀ D σ H, t' D σ H → t D σ H) : PSs X st t' := ⟨fun pins s σ H D I q => h.run pins s σ H D I (w D σ H q)⟩
variable {pos : Pos} {e : Expr} {m : M Opd}
theorem pssm_nil : PSsm X Ex [] (M.pure .next) := pss_weak pss_nil fun D σ H ⟨ι, s, R, q⟩ => q ι σ H (.refl R)
theorem pssm_cons {st : Stmt} {sts : List Stmt} {a b : M Fl} (ha : PSm X Ex st a) (hb : PSsm X Ex sts b) : PSsm X Ex (st :: sts) (mSeq a b) := by
  refine pss_weak (pss_cons ha hb) fun D σ H ⟨ι, s, R, q⟩ => ⟨ι, s, R, ?_⟩
  unfold mSeq at q
  cases ea : a s with
  | exc x s1 => rw [ea] at q; exact q
  | stuck => rw [ea] at q; exact q
  | ok f s1 =>
    rw [ea] at q
    cases f with
    | next => exact fun ι1 σ1 H1 P1 => tS_later P1 q
    | _ => exact q
/-- a docstring -/
theorem psm_doc {x j} {pos' : Pos} : PSm X Ex (.Expr (.Constant (.str x) j pos) pos') (M.pure .next) := ps_weak ps_doc fun D σ H ⟨ι, s, R, q⟩ => q ι σ H (.refl R)
theorem psm_pass : PSm X Ex (.Pass pos) (M.pure .next) := ps_weak ps_pass fun D σ H ⟨ι, s, R, q⟩ => q ι σ H (.refl R)
theorem psm_break : PSm X Ex (.Break pos) (M.pure .brk) := ps_weak ps_break fun D σ H ⟨ι, s, R, q⟩ => q ι σ H (.refl R)
theorem psm_cont : PSm X Ex (.Continue pos) (M.pure .cont) := ps_weak ps_continue fun D σ H ⟨ι, s, R, q⟩ => q ι σ H (.refl R)
theorem psm_expr (he : PEm X Ex e m) (hs : swapsWith e none pos.line X.env = pure false) : PSm X Ex (.Expr e pos) (Y.drop m) := by
  refine ps_weak (ps_expr he hs) fun D σ H ⟨ι, s, R, q⟩ => ?_
  rw [drop_eq] at q
  exact tE_mono (exS (.refl R) q) fun v H1 ⟨ι1, s1, o1, P1, _, _, _, q1⟩ => q1 ι1 σ H1 P1
theorem psm_ret (he : PEm X Ex e m) : PSm X Ex (.Return (some e) pos) (mRet m) := by
  refine ps_weak (ps_ret he) fun D σ H ⟨ι, s, R, q⟩ => ?_
  have q : OutS X.K ι s σ H Ex D (M.bind m (fun o => M.bind (rvO o) fun r => M.pure (.ret r)) s) := q
  refine tE_mono (exS (.refl R) q) fun v H1 ⟨ι1, s1, o1, P1, _, k, n, q1⟩ => ?_
  unfold M.bind at q1
  cases er : rvO o1 s1 with
  | ok r s2 =>
    rw [er] at q1
    obtain ⟨rfl, k2⟩ := rvO_ok P1.rel k n er
    exact q1 ι1 σ v H1 P1 k2
  | exc x s2 => exact (rvO_noexc er).elim
  | stuck => rw [er] at q1; exact q1.elim
theorem psm_retN : PSm X Ex (.Return none pos) (M.pure (.ret (.val .non))) :=
  ps_weak ps_retN fun D σ H ⟨ι, s, R, q⟩ => q ι σ .non H (.refl R) ⟨.non, trivial⟩
theorem psm_if {c : Expr} {a b : List Stmt} {mc : M Bool} {ma mb : M Fl} (hc : PTm X Ex c mc) (ha : PSsm X Ex a ma) (hb : PSsm X Ex b mb) : PSm X Ex (.If c a b pos) (M.bind mc fun k => if k = true then ma else mb) := by
  refine ps_weak (ps_if hc ha hb) fun D σ H ⟨ι, s, R, q⟩ => ?_
  obtain ⟨ι', s', R', q'⟩ := exT (.refl R) q
  refine ⟨ι', s', R', q'.imp fun k s2 b ι2 H2 P2 => ?_⟩
  obtain ⟨ι3, s3, P3, q3⟩ := b ι2 H2 P2
  cases k with
  | true => exact tS_later P3 q3
  | false => exact tS_later P3 q3
theorem psm_while {c : Expr} {body : List Stmt} {mc : M Bool} {mb : M Fl} (hp : PassesOwn (model X.prog X.w) X.A X.env X.xe) (hc : PTm X Ex c mc) (hb : PSsm X Ex body mb) : PSm X Ex (.While c body [] pos) (mWhl mc mb) :=
  ps_weak (ps_while hp hc hb) fun D σ H h => tWhl h
theorem psm_for {tg iter : Expr} {body : List Stmt} {t : Tg} {msrc : M Walk} {mb : M Fl} (hp : PassesOwn (model X.prog X.w) X.A X.env X.xe) (hc : X.calm = true) (hi : PIm X Ex tg iter msrc) (hg : PG X tg (tG X.K t)) (hb : PSsm X Ex body mb)
    (hs : ∀ x, foldedSetIterable iter X.env x = pure x) : PSm X Ex (.For tg iter body [] pos) (M.bind msrc fun w => M.bind (settle w) fun w => forGo w t mb w.ds) :=
  ps_weak (ps_for hp hc hi hg hb hs) fun D σ H h => tFor_of h
theorem set_weak {K : Frag} {i : Nat} {D : Ends} {σ : L2.St} {H : Hp} (h : tS K Ex (thenN (M.bind m (stO i))) D σ H) : tE K Ex m σ H fun x H1 => gName i x σ H1 D.nx := by
  obtain ⟨ι, s, R, q⟩ := h
  rw [thenN_eq, bind_assoc'] at q
  exact tE_mono (exS (.refl R) q) fun v H1 ⟨ι1, s1, o1, P1, _, k, n, q1⟩ => stS P1 k n q1
theorem psm_set {i : Nat} {x : Str} {pos' : Pos} (hN : X.N.Nodup) (hi : X.N[i]? = some x) (hx : Loc X.env.scope x) (he : PEm X Ex e m) (hs : swapsWith e (some (.Name x pos')) pos.line X.env = pure false) (hf : X.fn x = true ∨ X.env.scope.names.lookup x = some .local) :
    PSm X Ex (.Assign [.Name x pos'] e pos) (thenN (M.bind m (stO i))) := ps_weak (ps_set hN hi hx he hs hf) fun D σ H h => set_weak h
theorem psm_setLc {Ex' : ExP} {i : Nat} {y : Str} {py : Pos} {elt tg iter : Expr} {ifs : List Expr} {scope : Scope} {own : List (Str × Nat)} {spos : Pos} {t : Tg} {msrc : M Walk} {melt : M Opd} {mifs : M Bool} (hc : X.calm = true) (hN : X.N.Nodup) (hy : X.N[i]? = some y) (hyl : X.env.scope.names.lookup y = some .local)
    (hsw : swapsWith (.ListComp elt [⟨tg, iter, ifs, 0⟩] scope pos) (some (.Name y py)) spos.line X.env = pure true) (hi : PIm X Ex tg iter msrc) (ok : BlkOk X.N X.env.scope scope own) (hsl : ∀ i ∈ t.slots, i ∈ own.map (·.2))
    (hg : ∀ (s : Shared) (H : Hp) (C : Addr) (cl : List (Str × Addr)) (fp : List Addr), PG (X.blk s H scope (compEnvC scope cl C X.env) fp) tg (tG X.K t)) (ht : ∀ (s : Shared) (H : Hp) (C : Addr) (cl : List (Str × Addr)) (fp : List Addr), PTs (X.blk s H scope (compEnvC scope cl C X.env) fp) ifs (tT X.K Ex' mifs))
    (he : ∀ (s : Shared) (H : Hp) (C : Addr) (cl : List (Str × Addr)) (fp : List Addr), PE (X.blk s H scope (compEnvC scope cl C X.env) fp) elt (tE X.K Ex' melt)) (hs : ∀ x, foldedSetIterable iter X.env x = pure x) :
    PSm X Ex (.Assign [.Name y py] (.ListComp elt [⟨tg, iter, ifs, 0⟩] scope pos) spos) (thenN (M.bind (mLc (own.map (·.2)) melt t msrc mifs) (stO i))) :=
  ps_weak (ps_setLc hc hN hy hyl hsw hi ok hg ht he hs) fun D σ H h => lc_weak hsl (set_weak h)
theorem psm_setLc2 {Ex' : ExP} {i : Nat} {y : Str} {py : Pos} {elt tg iter tg1 iter1 : Expr} {ifs ifs1 : List Expr} {scope : Scope} {own : List (Str × Nat)} {vs1 : List Nat} {spos : Pos} {t t1 : Tg} {msrc msrc1 : M Walk} {melt : M Opd} {mifs mifs1 : M Bool} (hc : X.calm = true) (hN : X.N.Nodup) (hy : X.N[i]? = some y) (hyl : X.env.scope.names.lookup y = some .local)
    (hsw : swapsWith (.ListComp elt [⟨tg, iter, ifs, 0⟩, ⟨tg1, iter1, ifs1, 0⟩] scope pos) (some (.Name y py)) spos.line X.env = pure true) (hi : PIm X Ex tg iter msrc) (ok : BlkOk X.N X.env.scope scope own) (hsl : ∀ i ∈ t.slots, i ∈ own.map (·.2)) (hsl1 : ∀ i ∈ t1.slots, i ∈ vs1) (hvv : ∀ i ∈ vs1, i ∈ own.map (·.2))
    (hg : ∀ (s : Shared) (H : Hp) (C : Addr) (cl : List (Str × Addr)) (fp : List Addr), PG (X.blk s H scope (compEnvC scope cl C X.env) fp) tg (tG X.K t)) (ht : ∀ (s : Shared) (H : Hp) (C : Addr) (cl : List (Str × Addr)) (fp : List Addr), PTs (X.blk s H scope (compEnvC scope cl C X.env) fp) ifs (tT X.K Ex' mifs))
    (hi1 : ∀ (s : Shared) (H : Hp) (C : Addr) (cl : List (Str × Addr)) (fp : List Addr), PIm (X.blk s H scope (compEnvC scope cl C X.env) fp) Ex' tg1 iter1 msrc1)
    (hg1 : ∀ (s : Shared) (H : Hp) (C : Addr) (cl : List (Str × Addr)) (fp : List Addr), PG (X.blk s H scope (compEnvC scope cl C X.env) fp) tg1 (tG X.K t1)) (ht1 : ∀ (s : Shared) (H : Hp) (C : Addr) (cl : List (Str × Addr)) (fp : List Addr), PTs (X.blk s H scope (compEnvC scope cl C X.env) fp) ifs1 (tT X.K Ex' mifs1))
    (he : ∀ (s : Shared) (H : Hp) (C : Addr) (cl : List (Str × Addr)) (fp : List Addr), PE (X.blk s H scope (compEnvC scope cl C X.env) fp) elt (tE X.K Ex' melt)) (hs : ∀ x, foldedSetIterable iter X.env x = pure x) (hs1 : ∀ env x, foldedSetIterable iter1 env x = pure x) :
    PSm X Ex (.Assign [.Name y py] (.ListComp elt [⟨tg, iter, ifs, 0⟩, ⟨tg1, iter1, ifs1, 0⟩] scope pos) spos) (thenN (M.bind (mLc2 (own.map (·.2)) vs1 melt t msrc mifs t1 msrc1 mifs1) (stO i))) :=
  ps_weak (ps_setLc2 hc hN hy hyl hsw hi ok hvv hg ht hi1 hg1 ht1 he hs hs1) fun D σ H h => lc2_weak hsl hsl1 hvv (set_weak h)
theorem psm_asg {tg : Expr} {t : Tg} (he : PEm X Ex e m) (hg : PG X tg (tG X.K t)) (hs : swapsWithSole [tg] e pos.line X.env = pure false) (hw : swappedStores [tg] e X.env = pure none) (h1 : (assignEach [tg] X.env).map (·.2) = [assign tg X.env]) :
    PSm X Ex (.Assign [tg] e pos) (thenN (M.bind m fun o => M.bind (toD o) fun d => t.put d)) := by
  refine ps_weak (ps_asg he hg hs hw h1) fun D σ H ⟨ι, s, R, q⟩ => ?_
  rw [thenN_eq, bind_assoc'] at q
  refine tE_mono (exS (.refl R) q) fun v H1 ⟨ι1, s1, o1, P1, P1', k, n, q1⟩ => ?_
  rw [bind_assoc'] at q1
  unfold M.bind at q1
  cases e : toD o1 s1 with
  | ok d s2 =>
    rw [e] at q1
    simp only at q1
    obtain ⟨ι2, r, f⟩ := toD_ok P1.rel k e
    have P2 : Post X.K ι s σ H ι2 s2 H1 := f ⟨P1.stp, P1.rel⟩ n
    refine ⟨ι2, s2, d, P2.rel, r, ?_⟩
    cases ep : t.put d s2 with
    | ok z s3 =>
      rw [ep] at q1
      exact fun ι3 σ3 H3 S3 R3 _ _ => q1 ι3 σ3 H3 ⟨P2.stp.trans S3, R3⟩
    | exc x s3 => exact (put_noexc ep).elim
    | stuck => rw [ep] at q1; exact q1.elim
  | exc x s2 => exfalso; unfold toD at e; repeat' split at e
                all_goals cases e
  | stuck => rw [e] at q1; exact q1.elim
theorem toD_noexc {o : Opd} {s : St} {x : Exn} {s' : St} : toD o s ≠ .exc x s' := by
  unfold toD
  repeat' split
  all_goals (intro h; cases h)
/-- o[i] = v -/
theorem psm_put {o i : Expr} {mo mi : M Opd} {tpos : Pos} (he : PEm X Ex e m) (ho : PEm X Ex o mo) (hi : PEm X Ex i mi)
    (hs : swapsWithSole [.Subscript o i tpos] e pos.line X.env = pure false) (hw : swappedStores [.Subscript o i tpos] e X.env = pure none) (h1 : (assignEach [.Subscript o i tpos] X.env).map (·.2) = [assign (.Subscript o i tpos) X.env])
    (ha : ∀ v, assign (.Subscript o i tpos) X.env v = (do
      let ov ← holding [v] (eval o X.env)
      let iv ← holding [v, ov] (eval i X.env)
      standAt tpos
      holding [v, ov, iv] (setItem ov iv v)
      release [v, ov, iv] [])) :
    PSm X Ex (.Assign [.Subscript o i tpos] e pos) (thenN (M.bind m fun v => M.bind (toD v) fun v => M.bind mo fun o => M.bind mi fun i => M.bind (toD i) fun i => putO o i v)) := by
  refine ps_weak (ps_asg he (pg_sub ho hi (put_ok (Ex := Ex)) ha) hs hw h1) fun D σ H ⟨ι, s, R, q⟩ => ?_
  rw [thenN_eq, bind_assoc'] at q
  refine tE_mono (exS (.refl R) q) fun v H1 ⟨ι1, s1, o1, P1, _, k1, n1, q1⟩ => ?_
  rw [bind_assoc'] at q1
  unfold M.bind at q1
  cases ed : toD o1 s1 with
  | exc x s2 => exact (toD_noexc ed).elim
  | stuck => rw [ed] at q1; exact q1.elim
  | ok d s2 =>
    rw [ed] at q1
    obtain ⟨ι2, r2, f2⟩ := toD_ok P1.rel k1 ed
    have P2 : Post X.K ι s σ H ι2 s2 H1 := f2 ⟨P1.stp, P1.rel⟩ n1
    have q2 : OutS X.K ι s σ H Ex D (M.bind mo (fun o => M.bind (M.bind mi fun i => M.bind (toD i) fun i => putO o i d) fun _ => M.pure .next) s2) := by
      rw [← bind_assoc']; exact q1
    refine tE_mono (exS P2.toS q2) fun ov H3 ⟨ι3, s3, o3, P3, P23, k3, n3, q3⟩ => ?_
    rw [bind_assoc'] at q3
    refine tE_mono (exS P3 q3) fun iv H4 ⟨ι4, s4, o4, P4, P34, k4, n4, q4⟩ => ?_
    rw [bind_assoc'] at q4
    unfold M.bind at q4
    cases ei : toD o4 s4 with
    | exc x s5 => exact (toD_noexc ei).elim
    | stuck => rw [ei] at q4; exact q4.elim
    | ok di s5 =>
      rw [ei] at q4
      simp only at q4
      obtain ⟨ι5, r5, f5⟩ := toD_ok P4.rel k4 ei
      have P35 := f5 P34 n4
      have P5 : PostS X.K ι s σ H ι5 s5 σ H4 := (f5 ⟨P4.stp, P4.rel⟩ (n4.backS P3.stp)).toS
      have k3' := k3.stp P3.rel P35.stp
      have r2' := (r2.keep (P23.stp.keeps P2.rel)).keep (P35.stp.keeps P3.rel)
      refine ⟨ι5, s5, σ, H4, ι5, s5, o3, di, d, .refl P5.rel, k3', r5, r2', ?_⟩
      cases ep : putO o3 di d s5 with
      | ok z s6 => rw [ep] at q4; exact fun ι6 H6 P6 => q4 ι6 σ H6 (P5.trans P6.toS)
      | exc x s6 => rw [ep] at q4; exact ⟨q4.1, fun ι6 H6 P6 => q4.2 ι6 σ H6 (P5.trans P6.toS)⟩
      | stuck => rw [ep] at q4; exact q4.elim
/-- name += an int -/
theorem psm_aug {i : Nat} {x : Str} {pos' : Pos} (hN : X.N.Nodup) (hi : X.N[i]? = some x) (hx : Loc X.env.scope x) (he : PEm X Ex e m) (hf : X.fn x = true ∨ X.env.scope.names.lookup x = some .local) :
    PSm X Ex (.AugAssign (.Name x pos') .Add e pos) (thenN (M.bind (mVar i) fun x => M.bind m fun y => addO i x y)) := by
  refine ps_weak (ps_aug hN hi hx he ip_add hf) fun D σ H ⟨ι, s, R, q⟩ => ?_
  rw [thenN_eq, bind_assoc'] at q
  unfold M.bind at q
  cases ev : mVar i s with
  | exc x s1 => exfalso; unfold mVar at ev; repeat' split at ev
                all_goals cases ev
  | stuck => rw [ev] at q; exact q.elim
  | ok a s1 =>
    rw [ev] at q
    have q1 : OutS X.K ι s σ H Ex D (M.bind (M.bind m fun y => addO i a y) (fun _ => M.pure .next) s1) := q
    rw [bind_assoc'] at q1
    unfold mVar at ev
    split at ev
    · rename_i d ed
      cases ev
      obtain ⟨v, hv, r⟩ := R.slot _ _ ed
      refine ⟨v, hv, tE_mono (exS (.refl R) q1) fun y H1 ⟨ι1, s2, o1, P1, P1', k1, _, q2⟩ => ?_⟩
      unfold addO at q2
      split at q2
      · rename_i d1 o2 i1 j1 e1 e2
        cases e1
        have rv : Rep X.K H1 ι1 v (.int i1) := r.keep (P1.stp.keeps R)
        have ry : Rep X.K H1 ι1 y (.int j1) := k1
        cases rv
        cases ry
        exact ⟨i1, j1, rfl, rfl, stS (v := .int (i1 + j1)) (o := .val (.int (i1 + j1))) P1 (show Rep _ _ _ _ _ from .int _) trivial q2⟩
      · exact q2.elim
    · cases ev
      have : addO i (.own i) = fun _ => stuckM := by funext y; cases y <;> rfl
      refine ⟨_, (R.own _ _ (by assumption)).choose_spec, ?_⟩
      refine tE_mono (exS (.refl R) q1) fun y H1 ⟨ι1, s2, o1, P1, P1', k1, _, q2⟩ => ?_
      rw [this] at q2
      exact q2.elim
    · cases ev
/-- a, b = x, y -/
theorem psm_par {i j : Nat} {x y : Str} {a b : Expr} {ma mb : M Opd} {px py pt : Pos} {kt k2 pt2} (hc : X.calm = true) (hN : X.N.Nodup) (hi : X.N[i]? = some x) (hj : X.N[j]? = some y) (hij : i ≠ j)
    (hx : X.env.scope.names.lookup x = some .local) (hy : X.env.scope.names.lookup y = some .local) (ha : PEm X Ex a ma) (hb : PEm X Ex b mb)
    (hs1 : starEach [a, b] X.env = (false, eval a X.env) :: starEach [b] X.env) (hs2 : starEach [b] X.env = (false, eval b X.env) :: starEach [] X.env)
    (hw : swappedStores [.Tuple [.Name x px, .Name y py] kt pt] (.Tuple [a, b] k2 pt2) X.env = pure (some [x, y]))
    (hs : swapsWithSole [.Tuple [.Name x px, .Name y py] kt pt] (.Tuple [a, b] k2 pt2) pos.line X.env = pure false) :
    PSm X Ex (.Assign [.Tuple [.Name x px, .Name y py] kt pt] (.Tuple [a, b] k2 pt2) pos) (mPar i j ma mb) := by
  refine ps_weak (ps_par hc hN hi hj hij hx hy (pa_cons ha (pa_cons hb pa_nil hs2) hs1) hw hs) fun D σ H ⟨ι, s, R, q⟩ => ?_
  have q : OutS X.K ι s σ H Ex D (thenN (M.bind ma fun x => M.bind (if x.settled = true then M.pure x else M.bind (toD x) fun d => M.pure (Opd.val d)) fun x => M.bind mb fun y => M.bind (if y.settled = true then M.pure y else M.bind (toD y) fun d => M.pure (Opd.val d)) fun y => M.bind (stO j y) fun _ => stO i x) s) := q
  rw [thenN_eq, bind_assoc'] at q
  have settle : ∀ {ι1 : List Addr} {s1 : St} {H1 : Hp} {v : V} {o : Opd} {f : Opd → M Fl}, Post X.K ι s σ H ι1 s1 H1 → OpdOk X.K H1 ι1 s1 σ v o → NewOk H v o → OutS X.K ι s σ H Ex D (M.bind (if o.settled = true then M.pure o else M.bind (toD o) fun d => M.pure (Opd.val d)) f s1) →
      ∃ ι2 s2 o2, Post X.K ι s σ H ι2 s2 H1 ∧ OpdOk X.K H1 ι2 s2 σ v o2 ∧ NewOk H v o2 ∧ (∀ i, o2 ≠ .own i) ∧ OutS X.K ι s σ H Ex D (f o2 s2) ∧ (∀ Ha, NewOk Ha v o → NewOk Ha v o2) ∧ (∀ {ιa sa Ha}, Post X.K ιa sa σ Ha ι1 s1 H1 → NewOk Ha v o → Post X.K ιa sa σ Ha ι2 s2 H1) := fun {ι1 s1 H1 v o f} P k n q => by
    by_cases hsd : o.settled = true
    · rw [if_pos hsd] at q
      exact ⟨ι1, s1, o, P, k, n, (fun i e => by subst e; cases hsd), q, fun _ z => z, fun P _ => P⟩
    · rw [if_neg hsd] at q
      rw [bind_assoc'] at q
      unfold M.bind at q
      cases ed : toD o s1 with
      | exc x s2 => exact (toD_noexc ed).elim
      | stuck => rw [ed] at q; exact q.elim
      | ok d s2 =>
        rw [ed] at q
        obtain ⟨ι2, r, g⟩ := toD_ok P.rel k ed
        exact ⟨ι2, s2, .val d, g P n, r, trivial, (fun i e => by cases e), q, fun _ _ => trivial, g⟩
  refine tE_mono (exS (.refl R) q) fun v H1 ⟨ι1, s1, o1, P1, _, k1, n1, q1⟩ => ?_
  rw [bind_assoc'] at q1
  obtain ⟨ι2, s2, o2, P2, k2, n2, no2, q2, _, _⟩ := settle ⟨P1.stp, P1.rel⟩ k1 n1 q1
  rw [bind_assoc'] at q2
  refine tE_mono (exS P2.toS q2) fun w H3 ⟨ι3, s3, o3, P3, P23, k3, n3, q3⟩ => ?_
  rw [bind_assoc'] at q3
  obtain ⟨ι4, s4, o4, P4, k4, n4, no4, q4, nn4, g4⟩ := settle ⟨P3.stp, P3.rel⟩ k3 (n3.backS P2.stp) q3
  have P24 := g4 P23 n3
  have k2' := k2.stp P2.rel P24.stp
  refine ⟨v, w, rfl, ?_⟩
  rw [bind_assoc'] at q4
  unfold M.bind at q4
  cases e1 : stO j o4 s4 with
  | exc x s5 => exact (stO_noexc e1).elim
  | stuck => rw [e1] at q4; exact q4.elim
  | ok z s5 =>
    rw [e1] at q4
    obtain ⟨ι5, f5⟩ := stO_ok P4.rel k4 e1
    have P5 := f5 P4.toS n4
    have P25 := f5 P24.toS (nn4 _ n3)
    have k5 : OpdOk X.K H3 ι5 s5 (σ.set j (some w)) v o2 := by
      cases o2 with
      | val d => exact Rep.keep (P25.stp.keeps P2.rel) k2
      | own i => exact (no2 i rfl).elim
      | tmp n =>
        obtain ⟨c, rfl, h, l⟩ := k2
        exact ⟨c, rfl, NodeOk.stp P2.rel P25.stp h l⟩
    have fin := stS P5 k5 n2 q4
    rw [List.set_comm _ _ (Ne.symm hij)] at fin
    exact fin
end
end Y

/-! Y14: functions. -/
set_option linter.all false
set_option maxRecDepth 100000
set_option Elab.async false
set_option autoImplicit false
set_option maxHeartbeats 1000000
namespace Y
open PySem PySem.Spec L2 PyProof.Rows
section
variable {K : Frag} {ι ι' : List Addr} {s s' : St} {σ σ' : L2.St} {H H' : Hp}
mutual
theorem Rep.low {n : Nat} : ∀ {v : V} {d : D}, Rep K H ι v d → D.low n d = true → Rep K H (ι.take n) v d
  | _, _, .non, _ => .non
  | _, _, .bl b, _ => .bl b
  | _, _, .int i, _ => .int i
  | _, _, .str x, _ => .str x
  | _, _, .tup h hs, l => .tup h (Reps.low hs (by simpa [D.low] using l))
  | _, _, .ref (l := j) h, l => .ref (by
      have : j < n := by simpa [D.low] using l
      rw [List.getElem?_take_of_lt this]; exact h)
theorem Reps.low {n : Nat} : ∀ {vs : List V} {ds : List D}, Reps K H ι vs ds → D.lows n ds = true → Reps K H (ι.take n) vs ds
  | _, _, .nil, _ => .nil
  | _, _, .cons h hs, l => by
    simp only [D.lows, Bool.and_eq_true] at l
    exact .cons (Rep.low h l.1) (Reps.low hs l.2)
end
theorem Paired.imp_mem {α β : Type} {F G : α → β → Prop} : ∀ {l₁ : List α} {l₂ : List β}, Paired F l₁ l₂ → (∀ a b, a ∈ l₁ → F a b → G a b) → Paired G l₁ l₂
  | _, _, .nil, _ => .nil
  | _, _, .cons r t, f => .cons (f _ _ (List.mem_cons_self ..) r) (Paired.imp_mem t fun a b h => f a b (List.mem_cons_of_mem _ h))
theorem NodeOk.low {n : Nat} {a : Addr} {nd : Node} (h : NodeOk K H ι a nd) (l : nd.low n = true) : NodeOk K H (ι.take n) a nd := by
  cases nd with
  | lst ds => obtain ⟨vs, h, r⟩ := h; exact ⟨vs, h, Reps.low r l⟩
  | fro ds => obtain ⟨vs, h, r⟩ := h; exact ⟨vs, h, Reps.low r l⟩
  | dct kvs =>
    have l : (kvs.all fun p => D.low n p.1 && D.low n p.2) = true := l
    rw [List.all_eq_true] at l
    rcases h with ⟨ks, h, r⟩ | ⟨ks, h, r⟩
    · refine .inl ⟨ks, h, Paired.imp_mem r fun a b m q => ⟨q.1, ?_⟩⟩
      have := l a m
      simp only [Bool.and_eq_true] at this
      exact Rep.low q.2 this.2
    · refine .inr ⟨ks, h, Paired.imp_mem r fun a b m q => ⟨q.1, ?_⟩⟩
      have := l a m
      simp only [Bool.and_eq_true] at this
      exact Rep.low q.2 this.2
  | ins c fs => exact h
/-- the slots at a def's entry -/
def slots0 (n : Nat) (ds : List D) : List Slot := ds.map .val ++ List.replicate (n - ds.length) .unset
theorem slots0_get {n : Nat} {ds : List D} {i : Nat} {z : Slot} (h : (slots0 n ds)[i]? = some z) : (∃ d, ds[i]? = some d ∧ z = .val d) ∨ z = .unset := by
  unfold slots0 at h
  by_cases hi : i < ds.length
  · rw [List.getElem?_append_left (by simpa using hi), List.getElem?_map] at h
    cases e : ds[i]? with
    | none => rw [e] at h; cases h
    | some d => rw [e] at h; cases h; exact .inl ⟨d, rfl, rfl⟩
  · rw [List.getElem?_append_right (by simpa using hi)] at h
    rw [List.getElem?_replicate] at h
    split at h
    · cases h; exact .inr rfl
    · cases h
theorem rel0 {N : List Str} {h : List Node} {vs : List V} {ds : List D} (R : Rel K ι (cel h) noσ H) (rs : Reps K H ι vs ds) : Rel K ι ⟨slots0 N.length ds, h⟩ (start N vs) H ∧ ∀ {x a n}, At ι ⟨slots0 N.length ds, h⟩ (start N vs) x a n → At ι (cel h) noσ x a n := by
  have at_ : ∀ {x a n}, At ι ⟨slots0 N.length ds, h⟩ (start N vs) x a n → At ι (cel h) noσ x a n := fun {x a n} hx => by
    cases hx with
    | cell h1 h2 => exact .cell h1 h2
    | slot h1 h2 =>
      rcases slots0_get h1 with ⟨d, _, e⟩ | e <;> cases e
  refine ⟨⟨R.hlen, ?_, fun x a n hx => R.ok x a n (at_ hx), fun i d e => ?_, fun i n e => ?_, fun x y a n n' hx hy => R.uniq x y a n n' (at_ hx) (at_ hy)⟩, at_⟩
  · unfold slots0 L2.start
    simp [rs.length]
  · rcases slots0_get e with ⟨d', h1, e'⟩ | e'
    · cases e'
      have hi := (List.getElem?_eq_some_iff.mp h1).1
      obtain ⟨v, h2, r⟩ := rs.get h1
      refine ⟨v, ?_, r⟩
      unfold L2.start
      rw [List.getElem?_append_left (by simp [rs.length]; exact hi), List.getElem?_map, h2]
      rfl
    · cases e'
  · rcases slots0_get e with ⟨d', h1, e'⟩ | e' <;> cases e'
theorem fin_fn {N : List Str} {h : List Node} {vs : List V} {ds : List D} {v : V} {r : RV} (R : Rel K ι (cel h) noσ H) (rs : Reps K H ι vs ds) (P : PostS K ι ⟨slots0 N.length ds, h⟩ (start N vs) H ι' s' σ' H') (k : RetOk K H ι' s' σ' v r H') :
    ∃ ι2, Post K ι (cel h) noσ H ι2 (cel (gc h.length r s'.hp)) H' ∧ OpdOk K H' ι2 (cel (gc h.length r s'.hp)) noσ v r.opd ∧ NewOk H v r.opd := by
  obtain ⟨R0, at0⟩ := rel0 (N := N) R rs
  have l0 : ∀ {a}, Loose ι (cel h) noσ a → Loose ι ⟨slots0 N.length ds, h⟩ (start N vs) a := fun l x n hx => l x n (at0 hx)
  have l1 : ∀ {a}, ¬ Loose ι ⟨slots0 N.length ds, h⟩ (start N vs) a → ¬ Loose ι (cel h) noσ a := fun q l => q (l0 l)
  have nw : NewOk H v r.opd := by
    cases r with
    | val d => trivial
    | node n =>
      intro m a ea
      rcases k.held m a ea with ⟨i, hx⟩ | z
      · rcases P.stp.fresh _ _ _ hx m with q | q
        · obtain ⟨y, n', hy, m'⟩ := not_loose q
          obtain ⟨l, rfl, h1, h2⟩ := (at0 hy).cells
          obtain ⟨n2, e2, m2⟩ := P.stp.stay l n' h1 m'
          have hc : At ι' s' σ' (.inr l) a n2 := .cell e2 (pre_get P.stp.pre h2)
          cases P.rel.uniq _ _ _ _ _ hx hc m m2
        · exact q
      · exact z
  have P1 : Post K ι (cel h) noσ H ι' (cel s'.hp) H' := ⟨⟨P.stp.pre, fun a o e l => P.stp.frame a o e (l0 l), fun x a n hx m => (P.stp.fresh x a n hx.full m).imp l1 id, P.stp.there, P.stp.stay⟩, P.rel.cells⟩
  unfold gc
  split
  · rename_i hc
    simp only [Bool.and_eq_true] at hc
    obtain ⟨c1, c2⟩ := hc
    rw [List.all_eq_true] at c2
    obtain ⟨ext, pe⟩ := P1.stp.pre
    have et : ι'.take h.length = ι := by
      rw [pe]
      have : h.length = ι.length := R.hlen.symm
      rw [this]
      simp
    have sub : ∀ {x a n}, At ι (cel (s'.hp.take h.length)) noσ x a n → At ι' (cel s'.hp) noσ x a n ∧ n ∈ s'.hp.take h.length := fun {x a n} hx => by
      obtain ⟨l, rfl, h1, h2⟩ := hx.cells
      refine ⟨?_, List.mem_of_getElem? h1⟩
      have hl : l < h.length := by
        have := (List.getElem?_eq_some_iff.mp h1).1
        rw [List.length_take] at this
        omega
      rw [List.getElem?_take_of_lt hl] at h1
      exact .cell h1 (pre_get P1.stp.pre h2)
    have hlen : h.length ≤ s'.hp.length := by
      have a1 := P1.rel.hlen
      have a2 := R.hlen
      rw [pe, List.length_append] at a1
      have a1 : ι.length + ext.length = s'.hp.length := a1
      have a2 : ι.length = h.length := a2
      omega
    refine ⟨ι, ⟨⟨⟨[], by simp⟩, P1.stp.frame, fun x a n hx m => P1.stp.fresh x a n (sub hx).1 m, P1.stp.there, fun l n e m => ?_⟩, ⟨?_, rfl, fun x a n hx => ?_, fun i d e => by simp [cel] at e, fun i n e => by simp [cel] at e, fun x y a n n' hx hy => P1.rel.uniq x y a n n' (sub hx).1 (sub hy).1⟩⟩, ?_, nw⟩
    · obtain ⟨n', e', m'⟩ := P1.stp.stay l n e m
      refine ⟨n', ?_, m'⟩
      have hl : l < h.length := (List.getElem?_eq_some_iff.mp e).1
      show (s'.hp.take h.length)[l]? = _
      rw [List.getElem?_take_of_lt hl]
      exact e'
    · have := R.hlen
      show ι.length = (s'.hp.take h.length).length
      rw [List.length_take]
      have a2 : ι.length = h.length := R.hlen
      omega
    · obtain ⟨h1, h2⟩ := sub hx
      have := NodeOk.low (n := h.length) (P1.rel.ok _ _ _ h1) (c2 _ h2)
      rw [et] at this
      exact this
    · have ko := k.opd
      cases r with
      | val d =>
        have := Rep.low (n := h.length) (show Rep K H' ι' v d from ko) c1
        rw [et] at this
        exact this
      | node n =>
        obtain ⟨a, ea, ok, l⟩ := ko
        have := NodeOk.low (n := h.length) ok c1
        rw [et] at this
        exact ⟨a, ea, this, fun m x n2 hx => l m x n2 (sub hx).1⟩
  · exact ⟨ι', P1, k.opd, nw⟩
/-- exceptions as a def's caller wants them -/
def ExR (XR : XRT) (E : XK) : ExP := ⟨True, fun x ι' s' σ' H' => ∀ c o, XR x c o ι' H' → E c o H'⟩
theorem body_sp {XR : XRT} {N : List Str} {n : Nat} {m : M Fl} {vs : List V} {Q : VK} {E : XK} (h : spD K XR n (mkF N.length m) vs H Q E) : tS K (ExR XR E) m { nx := fun _ H' => Q .non H', rt := Q } (start N vs) H := by
  obtain ⟨hl, ι, hp, ds, R, rs, q⟩ := h
  obtain ⟨R0, at0⟩ := rel0 (N := N) R rs
  refine ⟨ι, _, R0, ?_⟩
  unfold mkF at q
  have e0 : ds.map Slot.val ++ List.replicate (N.length - ds.length) Slot.unset = slots0 N.length ds := rfl
  rw [e0] at q
  cases em : m ⟨slots0 N.length ds, hp⟩ with
  | stuck => rw [em] at q; exact q
  | exc x s' =>
    rw [em] at q
    refine ⟨trivial, fun ι' σ' H' P c o xr => ?_⟩
    have l0 : ∀ {a}, Loose ι (cel hp) noσ a → Loose ι ⟨slots0 N.length ds, hp⟩ (start N vs) a := fun l x n hx => l x n (at0 hx)
    exact q ι' H' c o ⟨⟨P.stp.pre, fun a o e l => P.stp.frame a o e (l0 l), fun x a n hx m => (P.stp.fresh x a n hx.full m).imp (fun q l => q (l0 l)) id, P.stp.there, P.stp.stay⟩, P.rel.cells⟩ xr
  | ok f s' =>
    rw [em] at q
    cases f with
    | next =>
      intro ι' σ' H' P
      obtain ⟨ι2, P2, k2, n2⟩ := fin_fn (v := .non) (r := .val .non) R rs P ⟨.non, trivial⟩
      exact q ι2 .non H' P2 k2 n2
    | ret r =>
      intro ι' σ' v H' P k
      obtain ⟨ι2, P2, k2, n2⟩ := fin_fn R rs P k
      exact q ι2 v H' P2 k2 n2
    | brk => exact q.elim
    | cont => exact q.elim
end
/-- a def keeps its promise, if its body does -/
theorem fn_spD {CX : CXT} {P : Program} {w : World} {K : Frag} {mg : Str → Option Value} {base : Heap} {x qual : Str} {params : Arguments} {body : List Stmt} {scope : Scope} {dvs : List V} {kws : List (Str × V)} {f : Addr} {fd : FuncData} {N ps : List Str} {k : Nat} {XR : XRT} {m : M Fl}
    (F : FunD K x qual params body scope dvs kws f fd) (S : FnScope N ps scope)
    (hbody : ∀ (cdv : Value) (A : Around) (outer : List Env) (s : Shared) (H : Hp) (E : XK), Room k (A.deeper (envOfC qual scope s.heap.objs.size f cdv)) → PSsm (cxOf CX P w K mg base N qual scope f cdv A outer s H E) (ExR XR E) body m) :
    FnOk P w K mg base CX (k + 1) f fd ps (spD K XR ps.length (mkF N.length m)) :=
  F.ok S (fun vs H Q E h => h.1) fun cdv A outer s H vs Q E hr h => ⟨_, hbody cdv A outer s H E hr, body_sp h⟩
end Y

/-! Y15: more rules: chains, tests of two ways, keywords. -/
set_option linter.all false
set_option maxRecDepth 100000
set_option Elab.async false
set_option autoImplicit false
set_option maxHeartbeats 1000000
namespace Y
open PySem PySem.Spec L2 PyProof.Rows
section
variable {X : Cx} {Ex : ExP}
theorem tE_bl {K : Frag} {σ : L2.St} {H : Hp} {m : M Bool} {Q : Bool → Hp → Prop} (h : tT K Ex m σ H Q) : tE K Ex (bl m) σ H fun v H' => ∃ k, v = .bl k ∧ Q k H' := by
  obtain ⟨ι, s, R, q⟩ := h
  refine ⟨ι, s, R, ?_⟩
  unfold bl
  cases e : m s with
  | ok k s' =>
    rw [e] at q
    intro ι' v H' P kv _
    cases (show Rep _ _ _ _ _ from kv)
    exact ⟨k, rfl, q ι' H' P⟩
  | exc x s' => rw [e] at q; exact q
  | stuck => rw [e] at q; exact q.elim
def chE (o o' : Cm) (ma mb mc : M Opd) : M Opd := M.bind ma fun x => M.bind mb fun y => M.bind (cmp o x y) fun k => if k = true then M.bind mc fun z => bl (cmp o' y z) else val (.bl false)
def chT (o o' : Cm) (ma mb mc : M Opd) : M Bool := M.bind ma fun x => M.bind mb fun y => M.bind (cmp o x y) fun k => if k = true then M.bind mc fun z => cmp o' y z else M.pure false
theorem chE_eq (o o' : Cm) (ma mb mc : M Opd) : chE o o' ma mb mc = bl (chT o o' ma mb mc) := by
  funext s
  unfold chE chT bl M.bind
  cases ma s with
  | ok x s1 =>
    simp only
    cases mb s1 with
    | ok y s2 =>
      simp only
      cases cmp o x y s2 with
      | ok k s3 =>
        cases k with
        | false => rfl
        | true =>
          simp only [if_true]
          cases mc s3 with
          | ok z s4 => cases cmp o' y z s4 <;> rfl
          | _ => rfl
      | _ => rfl
    | _ => rfl
  | _ => rfl
theorem bind_bl_truth (m : M Bool) : M.bind (bl m) truth = m := bl_truth m
theorem ch_weak {K : Frag} {o o' : Cm} {ma mb mc : M Opd} {σ : L2.St} {H : Hp} {Q : VK} (h : tE K Ex (chE o o' ma mb mc) σ H Q) : tChain (rO K Ex fun x y => bl (cmp o x y)) (rO K Ex fun x y => bl (cmp o' x y)) (tE K Ex ma) (tE K Ex mb) (tE K Ex mc) σ H Q := by
  obtain ⟨ι, s, R, q⟩ := h
  refine tE_mono (ev_next (.refl R) q) fun v1 H1 ⟨ι1, s1, o1, P1, _, k1, _, q1⟩ => ?_
  refine tE_mono (ev_next P1 q1) fun v2 H2 ⟨ι2, s2, o2, P2, P12, k2, _, q2⟩ => ?_
  refine ⟨ι2, s2, σ, H2, ι2, s2, o1, o2, .refl P2.rel, k1.stp P1.rel P12.stp, k2, ?_⟩
  unfold M.bind at q2
  cases ec : cmp o o1 o2 s2 with
  | exc x s3 => exact (cmp_noexc ec).elim
  | stuck => rw [ec] at q2; exact q2.elim
  | ok k s3 =>
    rw [ec] at q2
    have eb : bl (cmp o o1 o2) s2 = .ok (.val (.bl k)) s3 := by unfold bl; rw [ec]
    show OutG _ _ _ _ _ _ _ (bl (cmp o o1 o2) s2)
    rw [eb]
    intro ι3 v H3 P23 kv _
    cases (show Rep _ _ _ _ _ from kv)
    have P3 := P2.trans P23
    refine ⟨k, rfl, ?_⟩
    cases k with
    | false =>
      simp only [Bool.false_eq_true, if_false] at q2 ⊢
      exact fin_val P3 (.bl false) q2
    | true =>
      simp only [if_pos] at q2 ⊢
      have q2 : OutG K ι s σ H Ex (BQ K ι s σ H Q) (M.bind mc (fun z => bl (cmp o' o2 z)) s3) := q2
      refine tE_mono (ev_next P3 q2) fun v4 H4 ⟨ι4, s4, o4, P4, P34, k4, _, q4⟩ => ?_
      exact ⟨ι, s, σ, H, ι4, s4, o2, o4, P4, (k2.stp P2.rel P23.stp).stp P23.rel P34.stp, k4, q4⟩
variable {a b c : Expr} {pos : Pos} {ma mb mc : M Opd} {o o' : Cm} {op op' : CmpOp}
theorem pem_cmp2 (hu : X.A.units + 65 < cLine) (eo : op = cmOf o) (eo' : op' = cmOf o') (ha : PEm X Ex a ma) (hb : PEm X Ex b mb) (hc : PEm X Ex c mc) (hm : lastMarks [op, op'] [b, c] = false) : PEm X Ex (.Compare a [op, op'] [b, c] pos) (chE o o' ma mb mc) := by
  subst eo eo'
  exact pe_weak (pe_chain (cmp_ok (Ex := Ex) hu o) (cmp_ok (Ex := Ex) hu o') ha hb hc hm) fun σ H Q h => ch_weak h
theorem ptm_cmp2 (hu : X.A.units + 65 < cLine) (eo : op = cmOf o) (eo' : op' = cmOf o') (ha : PEm X Ex a ma) (hb : PEm X Ex b mb) (hc : PEm X Ex c mc) (hm : lastMarks [op, op'] [b, c] = false) : PTm X Ex (.Compare a [op, op'] [b, c] pos) (M.bind (chE o o' ma mb mc) truth) := by
  subst eo eo'
  refine pt_weak (pt_chain (cmp_ok (Ex := Ex) hu o) (cmp_ok (Ex := Ex) hu o') ha hb hc hm) fun σ H Q h => ?_
  rw [chE_eq, bind_bl_truth] at h
  have := tE_bl h
  rw [← chE_eq] at this
  exact ch_weak this
theorem ptm_ife {a b c : Expr} {pos : Pos} {mc ma mb : M Bool} (hc : PTm X Ex c mc) (ha : PTm X Ex a ma) (hb : PTm X Ex b mb) : PTm X Ex (.IfExp c a b pos) (M.bind mc fun k => if k = true then ma else mb) := by
  refine ⟨fun pins sh σ H Q I ⟨ι, s, R, q⟩ => ?_⟩
  refine isTrue_IfExp (thn (hc.run pins sh σ H _ I (tT_next (.refl R) q)) fun k s1 ⟨H1, I1, ι1, s2, P1, _, q1⟩ => ?_)
  cases k with
  | true => exact ha.run pins s1 σ H1 Q I1 (tT_later P1 q1)
  | false => exact hb.run pins s1 σ H1 Q I1 (tT_later P1 q1)
/-! ### keywords -/
abbrev PKd (X : Cx) (Ex : ExP) (kws : List Keyword) (m : M (List D)) : Prop := PK X kws (tD X.K Ex m)
theorem pk_weak {kws : List Keyword} {t t' : TA} (h : PK X kws t) (w : ∀ σ H Q, t' σ H Q → t σ H Q) : PK X kws t' := ⟨fun pos pins s σ H Q I q => h.run pos pins s σ H Q I (w σ H Q q)⟩
theorem pkd_nil : PKd X Ex [] (mDs []) := pk_weak pk_nil fun σ H Q ⟨ι, s, R, q⟩ => q ι [] H (.refl R) .nil
theorem pkd_cons {nm : Option Str} {kpos : Pos} {e : Expr} {kws : List Keyword} {m : Mean} {ms : List Mean} (he : PEm X Ex e m.E) (hes : PKd X Ex kws (mDs ms)) : PKd X Ex (⟨nm, e, kpos⟩ :: kws) (mDs (m :: ms)) := by
  refine pk_weak (pk_cons he hes) fun σ H Q ⟨ι, s, R, q⟩ => ?_
  refine tE_mono (ev_next (g := fun o => M.bind (toD o) fun d => M.bind (mDs ms) fun ds => M.pure (d :: ds)) (.refl R) q) fun v1 H1 ⟨ι1, s1, o1, P1, _, k1, n1, q1⟩ => ?_
  obtain ⟨ι2, s2, d, P2, r2, q2, _⟩ := toD_next P1 k1 n1 q1
  obtain ⟨ι', s', R', q'⟩ := tD_next P2 q2
  refine ⟨ι', s', R', q'.imp fun ds s3 b ι3 vs H3 P3 k3 => ?_⟩
  obtain ⟨ι4, s4, ds4, P4, P24, k4, q4⟩ := b ι3 vs H3 P3 k3
  exact q4 ι4 _ H3 P4 (.cons (r2.keep (P24.stp.keeps P2.rel)) k4)
/-- the values in the parameters' order -/
def permD (perm : List Nat) (ds : List D) : List D := perm.map fun j => ds.getD j .non
def permV (perm : List Nat) (vs zs : List V) : List V := perm.map fun j => (vs ++ zs).getD j .non
def permU (perm : List Nat) (us ws : List Value) : List Value := perm.map fun j => (us ++ ws).getD j .none
theorem perm_rep {K : Frag} {H : Hp} {ι : List Addr} {vs : List V} {ds : List D} (r : Reps K H ι vs ds) : ∀ perm : List Nat, Reps K H ι (perm.map fun j => vs.getD j .non) (permD perm ds)
  | [] => .nil
  | j :: perm => by
    refine .cons ?_ (perm_rep r perm)
    show Rep K H ι (vs.getD j .non) (ds.getD j .non)
    rw [List.getD_eq_getElem?_getD, List.getD_eq_getElem?_getD]
    cases e : ds[j]? with
    | none =>
      have : vs[j]? = none := List.getElem?_eq_none (by rw [r.length]; exact List.getElem?_eq_none_iff.mp e)
      rw [this]; exact .non
    | some d =>
      obtain ⟨v, hv, rv⟩ := r.get e
      rw [hv]; exact rv
theorem vals_getD {vs : List V} {us : List Value} (r : Vals vs us) : ∀ j : Nat, RelV (vs.getD j .non) (us.getD j .none) := by
  induction r with
  | nil => intro j; simp; exact rfl
  | cons h t ih =>
    intro j
    cases j with
    | zero => simpa using h
    | succ j => simpa using ih j
theorem perm_vals {vs zs : List V} {us ws : List Value} (r : Vals vs us) (rz : Vals zs ws) : ∀ perm : List Nat, Vals (permV perm vs zs) (permU perm us ws)
  | [] => .nil
  | j :: perm => .cons (vals_getD (r.append rz) j) (perm_vals r rz perm)
theorem mDs_append : ∀ (ms ks : List Mean), mDs (ms ++ ks) = M.bind (mDs ms) fun a => M.bind (mDs ks) fun b => M.pure (a ++ b)
  | [], ks => by
    funext s
    show mDs ks s = M.bind (M.pure []) (fun a => M.bind (mDs ks) fun b => M.pure (a ++ b)) s
    unfold M.bind M.pure
    simp only [List.nil_append]
    cases mDs ks s <;> rfl
  | m :: ms, ks => by
    have e1 : mDs (m :: ms ++ ks) = M.bind m.E fun o => M.bind (toD o) fun d => M.bind (mDs (ms ++ ks)) fun ds => M.pure (d :: ds) := rfl
    have e2 : mDs (m :: ms) = M.bind m.E fun o => M.bind (toD o) fun d => M.bind (mDs ms) fun ds => M.pure (d :: ds) := rfl
    rw [e1, e2, mDs_append ms ks]
    simp only [bind_assoc']
    rfl
theorem call_spK {K : Frag} {σ : L2.St} {H : Hp} {Q : VK} {fn : FnD} {XR : XRT} {E : XK} {ms ks : List Mean} {perm : List Nat} (hE : ∀ x ι' s' H', Ex.hit x ι' s' σ H' → ∀ c o, XR x c o ι' H' → E c o H')
    (h : tE K Ex (M.bind (mDs (ms ++ ks)) fun ds => callF fn (permD perm ds)) σ H Q) : tD K Ex (mDs ms) σ H fun vs H1 => tD K Ex (mDs ks) σ H1 fun zs H2 => vs.length = ms.length ∧ zs.length = ks.length ∧ spD K XR perm.length fn (permV perm vs zs) H2 Q E := by
  obtain ⟨ι, s, R, q⟩ := h
  rw [mDs_append, bind_assoc'] at q
  obtain ⟨ι', s', R', q'⟩ := tD_next (.refl R) q
  refine ⟨ι', s', R', ?_⟩
  cases em : mDs ms s' with
  | exc x s2 => rw [em] at q'; exact q'
  | stuck => rw [em] at q'; exact q'
  | ok ds s2 =>
    rw [em] at q'
    have hln := mDs_length em
    intro ι2 vs H2 P2 k2
    obtain ⟨ι3, s3, ds3, P3, _, k3, q3⟩ := q' ι2 vs H2 P2 k2
    rw [bind_assoc'] at q3
    obtain ⟨ι4, s4, R4, q4⟩ := tD_next P3 q3
    refine ⟨ι4, s4, R4, ?_⟩
    cases ek : mDs ks s4 with
    | exc x s2 => rw [ek] at q4; exact q4
    | stuck => rw [ek] at q4; exact q4
    | ok es s5 =>
      rw [ek] at q4
      have hlk := mDs_length ek
      intro ι5 zs H5 P5 k5
      obtain ⟨ι6, s6, es6, P6, P36, k6, q6⟩ := q4 ι5 zs H5 P5 k5
      have q6 : OutG K ι s σ H Ex (BQ K ι s σ H Q) (callF fn (permD perm (ds3 ++ es6)) s6) := q6
      have rr := perm_rep ((k3.keep (P36.stp.keeps P3.rel)).append k6) perm
      refine ⟨k2.length.trans hln, k5.length.trans hlk, by simp [permV], ι6, s6.hp, permD perm (ds3 ++ es6), P6.rel.cells, rr, ?_⟩
      cases ef : fn (permD perm (ds3 ++ es6)) s6.hp with
      | stuck =>
        have : callF fn (permD perm (ds3 ++ es6)) s6 = .stuck := by unfold callF; rw [ef]
        rw [this] at q6; exact q6.elim
      | exc x h' =>
        have ec : callF fn (permD perm (ds3 ++ es6)) s6 = .exc x { s6 with hp := h' } := by unfold callF; rw [ef]
        rw [ec] at q6
        intro ι7 H7 c o P7 xr
        exact hE x ι7 _ H7 (q6.2 ι7 H7 (P6.trans (call_post P6.rel P7))) c o xr
      | ret r h' =>
        have ec : callF fn (permD perm (ds3 ++ es6)) s6 = .ok r.opd { s6 with hp := h' } := by unfold callF; rw [ef]
        rw [ec] at q6
        intro ι7 v H7 P7 k7 n7
        exact q6 ι7 v H7 (P6.trans (call_post P6.rel P7)) (call_opd P6.rel k7 n7) (n7.back P6.stp)
/-! ### no star -/
def isStar : Expr → Bool
  | .Starred .. => true
  | _ => false
theorem star_cons {e : Expr} (es : List Expr) {env : Env} (h : isStar e = false) : starEach (e :: es) env = (false, eval e env) :: starEach es env := by
  cases e <;> first | rfl | cases h
def noStar : List Expr → Bool
  | [] => true
  | e :: es => !isStar e && noStar es
theorem noStar_any {es : List Expr} {env : Env} {pos : Pos} (h : noStar es = true) : (backTo pos (starEach es env)).any (·.1) = false := by
  induction es with
  | nil => rfl
  | cons e es ih =>
    simp only [noStar, Bool.and_eq_true, Bool.not_eq_true'] at h
    rw [star_cons es h.1]
    show (false || (backTo pos (starEach es env)).any (·.1)) = false
    rw [ih h.2]; rfl
theorem noStar_all {es : List Expr} {env : Env} {pos : Pos} (h : noStar es = true) : (backTo pos (starEach es env)).all (fun x => !x.1) = true := by
  induction es with
  | nil => rfl
  | cons e es ih =>
    simp only [noStar, Bool.and_eq_true, Bool.not_eq_true'] at h
    rw [star_cons es h.1]
    show (true && (backTo pos (starEach es env)).all (fun x => !x.1)) = true
    rw [ih h.2]; rfl
/-- the keywords' names, if each has one -/
def kwNames : List Keyword → Option (List Str)
  | [] => some []
  | ⟨some x, _, _⟩ :: ks => (kwNames ks).map fun xs => x :: xs
  | ⟨none, _, _⟩ :: _ => none
theorem kwNames_ok {env : Env} {pos : Pos} : ∀ {kws : List Keyword} {ks : List Str}, kwNames kws = some ks → (backToKw pos (keywordEach kws env)).all (·.1.isSome) = true ∧ (backToKw pos (keywordEach kws env)).filterMap (·.1) = ks ∧ (backToKw pos (keywordEach kws env)).any (·.1.isNone) = false
  | [], ks, h => by cases h; exact ⟨rfl, rfl, rfl⟩
  | ⟨none, _, _⟩ :: _, _, h => by cases h
  | ⟨some x, e, p⟩ :: kws, ks, h => by
    unfold kwNames at h
    cases e2 : kwNames kws with
    | none => rw [e2] at h; cases h
    | some xs =>
      rw [e2] at h
      cases h
      obtain ⟨h1, h2, h3⟩ := kwNames_ok (env := env) (pos := pos) e2
      refine ⟨?_, ?_, ?_⟩
      · show (true && _) = true; rw [Bool.true_and]; exact h1
      · show x :: _ = _; exact congrArg _ h2
      · show (false || _) = false; rw [Bool.false_or]; exact h3
section
variable {CX : CXT} {k n : Nat} {f : Addr} {fd : FuncData} {ps ks : List Str} {fn : FnD} {x : Str} {p pos : Pos} {e : Expr} {es : List Expr} {kws : List Keyword} {XR : XRT} {E : XK} {ms mk : List Mean} {perm : List Nat}
/-- f(.., k = v, ..) -/
theorem pem_callK (F : FnOk X.prog X.w X.K X.mg X.base CX k f fd ps (spD X.K XR perm.length fn)) (hr : Room k X.A) (hg : Gl X x) (hm : X.mg x = some (.ref f)) (hk : PySem.W.keepIn X.K (.ref f) = true) (hb : KBn X.K fd ps es.length ks (permU perm) (permV perm)) (hx : Passes CX X E)
    (hE : ∀ x ι' s' σ H', Ex.hit x ι' s' σ H' → ∀ c o, XR x c o ι' H' → E c o H') (ha : PAd X Ex es (mDs ms)) (hkw : PKd X Ex kws (mDs mk)) (hml : ms.length = es.length) (hmk : mk.length = ks.length) (hdb : (x == ("__debug__" : Str)) = false) (hns : noStar es = true) (hkn : kwNames kws = some ks) :
    PEm X Ex (.Call (.Name x p) es kws pos) (M.bind (mDs (ms ++ mk)) fun ds => callF fn (permD perm ds)) := by
  obtain ⟨hall, hks, hany⟩ := kwNames_ok (env := X.env) (pos := pos) hkn
  cases es with
  | cons e es =>
    have hns2 := hns
    simp only [noStar, Bool.and_eq_true, Bool.not_eq_true'] at hns2
    refine pe_weak (pe_callN (E := E) F hr hg hm hk hb hx ha hkw hall hks hdb (star_cons es hns2.1) (by rw [noStar_any hns, hany]; rfl)) fun σ H Q h => ?_
    obtain ⟨ι, s, R, q⟩ := call_spK (E := E) (XR := XR) (fun x ι' s' H' => hE x ι' s' σ H') h
    refine ⟨ι, s, R, q.imp fun ds s2 b ι2 vs H2 P2 k2 => ?_⟩
    obtain ⟨ι3, s3, R3, q3⟩ := b ι2 vs H2 P2 k2
    refine ⟨ι3, s3, R3, q3.imp fun ds s4 b4 ι4 zs H4 P4 k4 => ?_⟩
    obtain ⟨l1, l2, sp⟩ := b4 ι4 zs H4 P4 k4
    exact ⟨l1.trans hml, l2.trans hmk, sp⟩
  | nil =>
    refine ⟨fun pins s σ H Q I h => ?_⟩
    have h := call_spK (E := E) (XR := XR) (fun x ι' s' H' => hE x ι' s' σ H') h
    have hms : ms = [] := List.length_eq_zero_iff.mp hml
    subst hms
    obtain ⟨ι, s0, R, q⟩ := h
    have q2 := q ι [] H (.refl R) .nil
    refine wpAny_Call_Name_kw (ld_glob I hg hm ?_ hdb)
    refine PySem.W.callWith_KW0 (h₀ := X.base) I.ok.mod.kin hk hall ?_ (by show (false || _) = false; rw [hany]; rfl)
    refine thn (hkw.run pos pins s σ H _ I q2) fun ws s2 ⟨zs, H2, I2, rz, l1, l2, q2⟩ => ⟨I2.kIn, ?_⟩
    rw [hks]
    exact run_fnN (us := []) (vs := []) F hr hb hx I2 .nil rz rfl (l2.trans hmk) q2
end
end
end Y

/-! Y23: enumerate of a tuple. -/
set_option linter.all false
set_option maxRecDepth 100000
set_option Elab.async false
set_option autoImplicit false
set_option maxHeartbeats 1000000
namespace Y
open PySem PySem.Spec L2 PyProof.Rows
theorem en_new {v : Value} {o : Obj} {G : Heap → Prop} (B : Begins v o G) :
    Meets (Builtin.«enumerate.__new__» ⟨[.type "enumerate", v], []⟩) (fun _ R s => G s.heap ∧
      R (.ok (.ret (.ref (s.heap.push o).objs.size))) { s with heap := (s.heap.push o).push { cls := .type "enumerate", data := .fields #[.none, .bool false, .ref s.heap.objs.size, rawInt 0, .none, .none] } }) :=
  .of_wp fun prog w A R s h => by
    obtain ⟨hp, g, d, tk, os⟩ := s
    obtain ⟨h1, h⟩ := h
    have hsub := sub_enumerate
    have beg : ∀ {A' : Around} {E : Value → Shared → Prop} {Q : Value → Shared → Prop}, Q (.ref hp.objs.size) ⟨hp.push o, g, d, tk, os⟩ → wpAny (model prog w) A' (pyIter v) Q E ⟨hp, g, d, tk, os⟩ :=
      fun q => B.iter prog w _ _ ⟨hp, g, d, tk, os⟩ _ h1 q
    wp_walk using beg
    refine wpAny_stack_any fun st => wpAny_pure ?_
    split
    · rename_i c _ _ _ _ _
      cases (c == Value.type "enumerate") <;> (wp_walk using beg; exact ⟨_, rfl, h⟩)
    · wp_walk using beg
      exact ⟨_, rfl, h⟩
section
variable {prog : Program} {w : World} {A : Around} {E : Value → Shared → Prop} {s : Shared}
theorem en_call {v : Value} {o : Obj} {G : Heap → Prop} {Q : Value → Shared → Prop} (B : Begins v o G) (h1 : G s.heap)
    (h : ∀ h', IsEnum h' (s.heap.objs.size + 1) s.heap.objs.size 0 .none → h'.get? s.heap.objs.size = some o → (∀ b u, s.heap.get? b = some u → h'.get? b = some u) → Q (.ref (s.heap.objs.size + 1)) { s with heap := h' }) :
    wpAny (model prog w) A (call (.type "enumerate") [v]) Q E s := by
  refine callType_new F.called_enumerate (by decide) (F.typeCall_enumerate_1 _) (F.newCall_enumerate_1 _) (fun obj => F.args_object_init_2 obj _) F.entry_enumerate_new (en_new B) ⟨h1, ?_⟩
  have hz : (s.heap.push o).objs.size = s.heap.objs.size + 1 := Heap.size_push ..
  have top : IsEnum ((s.heap.push o).push { cls := .type "enumerate", data := .fields #[.none, .bool false, .ref s.heap.objs.size, rawInt 0, .none, .none] }) (s.heap.objs.size + 1) s.heap.objs.size 0 .none := by
    have q := Heap.get?_push_size (s.heap.push o) (o := { cls := .type "enumerate", data := .fields #[.none, .bool false, .ref s.heap.objs.size, rawInt 0, .none, .none] }) rfl
    rw [hz] at q
    exact q
  show _ ∧ _
  rw [hz]
  exact ⟨⟨_, top, rfl⟩, h _ top (Heap.get?_push_of_some _ (Heap.get?_push_size _ B.free)) fun b u x => Heap.get?_push_of_some _ (Heap.get?_push_of_some _ x)⟩
end
/-- the tuple at a, each item in a new pair -/
def ItEn (K : PySem.W.Frag) (a : Addr) : It where
  go := fun i H => ∃ (xs : List V) (x : V), SqT K H a xs ∧ xs[i]? = some x
  yld := fun i H v H' => ∃ p x, v = .ref p ∧ H p = none ∧ H' = upd H p (.tup [.int (i : Nat), x]) ∧ ∀ xs, SqT K H a xs → xs[i]? = some x
  stop := fun i H => ∃ xs : List V, SqT K H a xs ∧ xs.length = i
theorem turn_en {P : Program} {w : World} {K : PySem.W.Frag} {elts : List Expr} {kk : Nat} {tpos : Pos} (a e it : Addr) :
    Turn P w K (.Tuple elts kk tpos) (ItEn K a) [e, it] e (fun i h => (∃ old, IsEnum h e it ((i : Nat) : Int) old) ∧ h.IsTupleIter it a i ∧ e ≠ it) where
  mem := by simp
  obj := fun i h st b hb => by
    obtain ⟨⟨old, he⟩, ⟨o, ho, hc, hd⟩, _⟩ := st
    rcases (show b = e ∨ b = it by simpa using hb) with rfl | rfl
    · exact ⟨_, he, fun v q => nomatch q⟩
    · exact ⟨o, ho, fun v q => by rw [hd] at q; cases q⟩
  keep := fun i h h' st k => by
    obtain ⟨⟨old, he⟩, ⟨o, ho, hc, hd⟩, hne⟩ := st
    exact ⟨⟨old, k e (by simp) _ he⟩, ⟨o, k it (by simp) _ ho, hc, hd⟩, hne⟩
  item := by
    intro X hP hw hK hc i pins s σ H E I hf st hg
    subst hP hw hK
    obtain ⟨⟨old, he⟩, hit, hne⟩ := st
    obtain ⟨xs, x, hq, hx⟩ := hg
    obtain ⟨its, rv, p, hz⟩ := I.tuple hq
    obtain ⟨u, hu, ru⟩ := rv.get hx
    have hel : e < s.heap.objs.size := Heap.lt_size he
    have hil : it < s.heap.objs.size := by obtain ⟨_, q, _⟩ := hit; exact Heap.lt_size q
    obtain ⟨oa, qa, ca, na, da⟩ := id p
    obtain ⟨oi, qi, ci, di⟩ := id hit
    have ai : a ≠ it := fun z => by subst z; rw [qa] at qi; cases qi; rw [da] at di; cases di
    have ea : e ≠ a := fun z => by
      subst z
      have q : s.heap.get? e = some _ := he
      rw [qa] at q
      cases q
      cases da
    have D := Draws.tuple (prog := X.prog) (w := X.w) (A := X.A.in1) (I.ok.hd hc) it a ai its.toArray
    have hlt : i < its.toArray.size := by
      have := (List.getElem?_eq_some_iff.mp hu).1
      simpa using this
    refine wpAny_pyNext_enum_itemD D he ⟨hit, p⟩ hlt hne (by simp [hne, ea]) fun y h' tk hy ho st' hT hsz hk => ?_
    have ey : y = u := by
      have hy : its.toArray[i]? = some y := hy
      rw [List.getElem?_toArray, hu] at hy
      exact (Option.some.inj hy).symm
    subst ey
    refine ⟨_, rfl, wpAny_letOwnedTupleGo_enum (s := { s with heap := h', toks := tk + 1 }) ho fun h'' he' sb => ?_⟩
    have hT2 : h''.get? s.heap.objs.size = some { cls := .type "tuple", data := .seq #[.int i tk, y] } := (sb.2 _ (Nat.ne_of_gt hel)).trans hT
    have new : ObjOk X.prog X.w (upd H s.heap.objs.size (.tup [.int (i : Nat), x])) h'' s.heap.objs.size (.tup [.int (i : Nat), x]) :=
      ⟨by show 2 ≤ sizeLine; decide, [.int i tk, y], .cons ⟨_, rfl⟩ (.cons ru .nil), ⟨_, hT2, rfl, _, rfl⟩⟩
    have I1 : Inv X pins σ (upd H s.heap.objs.size (.tup [.int (i : Nat), x])) { s with heap := h'', toks := tk + 1 } :=
      I.turnedNew (ch := [e, it]) (fun b ob hb q => (sb.2 b (fun z => hb (by simp [z]))).trans (hk b ob (fun z => hb (by simp [z])) (fun z => hb (by simp [z])) q)) hf (Nat.le_refl _) new
    refine ⟨.ref s.heap.objs.size, _, I1, rfl, ⟨_, x, rfl, I.hok.fresh (Nat.le_refl _), rfl, fun ys hy => by rw [I.tuple_inj hy hq]; exact hx⟩, ⟨⟨y, ?_⟩, ?_, hne⟩, fun b hb => ?_⟩
    · have e1 : ((i + 1 : Nat) : Int) = (i : Int) + 1 := by omega
      rw [e1]; exact he'
    · obtain ⟨o2, q2, c2, d2⟩ := st'.1
      exact ⟨o2, (sb.2 it (Ne.symm hne)).trans q2, c2, d2⟩
    · have hb' : b < s.heap.objs.size := by
        rcases (show b = e ∨ b = it by simpa using hb) with rfl | rfl
        · exact hel
        · exact hil
      rw [upd_ne (Nat.ne_of_lt hb')]
      exact (hf b hb).1
  done := by
    intro X hP hw hK hc i pins s σ H E I hf st hg
    subst hP hw hK
    obtain ⟨⟨old, he⟩, hit, hne⟩ := st
    obtain ⟨xs, hq, hx⟩ := hg
    obtain ⟨its, rv, p, hz⟩ := I.tuple hq
    obtain ⟨f0, f1, f2, f3, f4, f5⟩ := hf it (by simp)
    obtain ⟨oa, qa, ca, na, da⟩ := id p
    obtain ⟨oi, qi, ci, di⟩ := id hit
    have ai : a ≠ it := fun z => by subst z; rw [qa] at qi; cases qi; rw [da] at di; cases di
    have D := Draws.tuple (prog := X.prog) (w := X.w) (A := X.A.in1) (I.ok.hd hc) it a ai its.toArray
    have hs : its.toArray.size = i := by simp [← rv.length, hx]
    exact wpAny_pyNext_enum_endD D he (by rw [hs]; exact ⟨hit, p⟩) fun h' eb => ⟨rfl, I.turned (t' := s.toks) (fun b o hb q => eb b o hb q) f0 f1 f3 f4 f5⟩
  self := fun A i s Q E st h => let ⟨⟨_, he⟩, _⟩ := st; wpAny_pyIter_enum he h
end Y

/-! Y24: more walks. -/
set_option linter.all false
set_option maxRecDepth 100000
set_option Elab.async false
set_option autoImplicit false
set_option maxHeartbeats 1000000
namespace Y
open PySem PySem.Spec L2 PyProof.Rows
theorem enF_len : ∀ (ds : List D) (i : Nat), (enF i ds).length = ds.length
  | [], _ => rfl
  | d :: ds, i => by simp [enF, enF_len ds (i + 1)]
theorem enF_get : ∀ (ds : List D) (i k : Nat) (e : D), (enF i ds)[k]? = some e → ∃ d, ds[k]? = some d ∧ e = .tup [.int ((i + k : Nat) : Int), d]
  | [], _, _, _, h => by simp [enF] at h
  | d :: ds, i, 0, e, h => by
    simp [enF] at h
    exact ⟨d, rfl, h.symm⟩
  | d :: ds, i, k + 1, e, h => by
    simp only [enF, List.getElem?_cons_succ] at h
    obtain ⟨x, h1, h2⟩ := enF_get ds (i + 1) k e h
    exact ⟨x, by simpa using h1, by rw [h2]; have : i + 1 + k = i + (k + 1) := by omega
                                    rw [this]⟩
section
variable {K : Frag} {ι : List Addr} {s : St} {σ : L2.St} {H : Hp}
theorem pair_ok {H2 : Hp} {p : Addr} {i : Nat} {x : V} {d : D} (n : H2 p = none) (r : Rep K H2 ι x d) : (∀ a o, H2 a = some o → upd H2 p (.tup [.int (i : Int), x]) a = some o) ∧ Rep K (upd H2 p (.tup [.int (i : Int), x])) ι (.ref p) (.tup [.int (i : Int), d]) :=
  ⟨le_upd n, .tup (SqT.of upd_same) (.cons (.int _) (.cons (r.keep (.of_le (le_upd n))) .nil))⟩
theorem jok_enT {a : Addr} {vs : List V} {ds : List D} (R : Rel K ι s σ H) (hq : SqT K H a vs) (r : Reps K H ι vs ds) : JOk K ⟨enF 0 ds, none⟩ (ItEn K a) ι s σ H := by
  refine ⟨.non, (fun o xs e => by cases e), fun {ι2 s2 σ2 H2} kp R2 h => ⟨fun i d ed => ?_, vs, kp.sqT hq, by rw [enF_len]; exact r.length⟩⟩
  obtain ⟨d0, e0, rfl⟩ := enF_get _ _ _ _ ed
  obtain ⟨w, hw, rw'⟩ := (r.keep kp).get e0
  refine ⟨⟨vs, w, kp.sqT hq, hw⟩, fun x H3 ⟨p, y, ex, n, eH, hy⟩ => ?_⟩
  have := hy vs (kp.sqT hq)
  rw [hw] at this
  cases this
  subst ex eH
  rw [Nat.zero_add]
  exact pair_ok n rw'
theorem jok_enL {a : Addr} {o : Opd} {ds : List D} (R : Rel K ι s σ H) (k : OpdOk K H ι s σ (.ref a) o) : JOk K ⟨enF 0 ds, some (o, ds)⟩ (Ite K a) ι s σ H := by
  refine ⟨.ref a, fun o' xs e => by cases e; exact k, fun {ι2 s2 σ2 H2} S R2 h => ?_⟩
  obtain ⟨o2, k2, e2⟩ := h o ds rfl
  obtain ⟨b, vs, eb, hq, r⟩ := lst_ok R2 k2 e2
  cases eb
  refine ⟨fun i d ed => ?_, vs, hq, Nat.le_of_eq (by rw [enF_len]; exact r.length)⟩
  obtain ⟨d0, e0, rfl⟩ := enF_get _ _ _ _ ed
  obtain ⟨w, hw, rw'⟩ := r.get e0
  refine ⟨⟨vs, w, hq, hw⟩, fun x H3 ⟨p, y, ex, n, eH, hy⟩ => ?_⟩
  have := hy vs hq
  rw [hw] at this
  cases this
  subst ex eH
  rw [Nat.zero_add]
  exact pair_ok n rw'
end
theorem pim_enum {X : Cx} {Ex : ExP} {e : Expr} {ma : M Opd} {elts : List Expr} {kk : Nat} {tpos p pos : Pos} (hg : Gl X "enumerate") (hm : X.mg "enumerate" = none) (he : PEm X Ex e ma) (hst : isStar e = false) :
    PIm X Ex (.Tuple elts kk tpos) (.Call (.Name "enumerate" p) [e] [] pos) (M.bind ma enumO) := by
  refine ⟨fun pins sh σ H R I ⟨ι, s, Rl, q⟩ => ?_⟩
  have ha := pa_cons he pa_nil (star_cons [] hst)
  refine Call_ (ld_blt I hg hm boot_enumerate (PyProof.Rows.callWith_type1 (thn (ha.run pos pins sh σ H (fun vs H1 => ∃ v, vs = [v] ∧ ∃ ι2 s2 o2, Post X.K ι s σ H ι2 s2 H1 ∧ OpdOk X.K H1 ι2 s2 σ v o2 ∧ OutG X.K ι s σ H Ex (BW X.K ι s σ H R) (enumO o2 s2)) I ?_) fun us s1 ⟨vs, H1, I1, r1, q1⟩ => ?_) (star_cons [] hst) rfl))
  · exact tE_mono (ev_next (.refl Rl) q) fun v H1 ⟨ι2, s2, o2, P, _, k, _, q1⟩ => ⟨v, rfl, ι2, s2, o2, P, k, q1⟩
  · obtain ⟨v, rfl, ι2, s2, o, P, k, q1⟩ := q1
    cases r1 with
    | cons r rr =>
      cases rr
      unfold enumO at q1
      split at q1
      · cases (show Rep _ _ _ _ _ from k) with
        | tup hq rs =>
          cases r
          obtain ⟨its, rv, p', hz⟩ := I1.tuple hq
          refine en_call (begins_tuple _ its.toArray) (show s1.heap.IsTuple _ its.toArray from p') fun h' he' hit hk => wpAny_pyIter_enum he' ?_
          have I2 : Inv X pins σ H1 { s1 with heap := h' } := I1.kept (t' := s1.toks) hk
          refine ⟨s1.heap.objs.size + 1, [s1.heap.objs.size + 1, s1.heap.objs.size], _, _, H1, rfl, I2, turn_en _ (s1.heap.objs.size + 1) s1.heap.objs.size, ⟨⟨.none, he'⟩, ⟨_, hit, rfl, rfl⟩, Nat.succ_ne_self _⟩, fun b hb => ?_, q1 ι2 H1 _ P (jok_enT P.rel hq rs)⟩
          have hle : s1.heap.objs.size ≤ b := by
            rcases (show b = s1.heap.objs.size + 1 ∨ b = s1.heap.objs.size by simpa using hb) with z | z
            · rw [z]; exact Nat.le_add_right _ _
            · rw [z]; exact Nat.le_refl _
          exact I1.fpOk hle (I1.hok.fresh hle)
      · split at q1
        · rename_i ds eds
          obtain ⟨a, vs, rfl, hq, rs⟩ := lst_ok P.rel k eds
          cases r
          obtain ⟨its, rv, p', hz⟩ := I1.list hq
          refine call_enumerate_list p'.isList fun h' he' hit hsz hk => wpAny_pyIter_enum he' ?_
          have I2 : Inv X pins σ H1 { s1 with heap := h' } := I1.kept (t' := s1.toks) hk
          refine ⟨s1.heap.objs.size + 1, [s1.heap.objs.size + 1, s1.heap.objs.size], _, _, H1, rfl, I2, turn_enum a (s1.heap.objs.size + 1) s1.heap.objs.size, ⟨⟨.none, he'⟩, hit, Nat.succ_ne_self _⟩, fun b hb => ?_, q1 ι2 H1 _ P (jok_enL P.rel k)⟩
          have hle : s1.heap.objs.size ≤ b := by
            rcases (show b = s1.heap.objs.size + 1 ∨ b = s1.heap.objs.size by simpa using hb) with z | z
            · rw [z]; exact Nat.le_add_right _ _
            · rw [z]; exact Nat.le_refl _
          exact I1.fpOk hle (I1.hok.fresh hle)
        · exact q1.elim
end Y

/-! Y29: sorted(set(t)), t a tuple of ints. -/
set_option linter.all false
set_option maxRecDepth 100000
set_option Elab.async false
set_option autoImplicit false
set_option maxHeartbeats 1000000
namespace Y
open PySem PySem.Spec L2 PyProof.Rows
theorem repsI {K : Frag} {H : Hp} {ι : List Addr} : ∀ ns : List Int, Reps K H ι (ns.map V.int) (ns.map D.int)
  | [] => .nil
  | n :: ns => .cons (.int n) (repsI ns)
theorem ints_some : ∀ {ds : List D} {is : List Int}, D.ints ds = some is → ds = is.map D.int
  | [], is, h => by cases h; rfl
  | d :: ds, is, h => by
    cases d with
    | int i =>
      simp only [D.ints, Option.map_eq_some_iff] at h
      obtain ⟨js, e, rfl⟩ := h
      rw [ints_some e]; rfl
    | _ => cases h
theorem eq_int (i j : Int) : D.eq (.int i) (.int j) = (i == j) := by simp [D.eq]
theorem once_ints : ∀ is : List Int, ∃ js : List Int, D.once (is.map D.int) = js.map D.int ∧ js.Nodup ∧ ∀ k, k ∈ js ↔ k ∈ is
  | [] => ⟨[], rfl, .nil, fun _ => Iff.rfl⟩
  | i :: is => by
    obtain ⟨js, e, n, m⟩ := once_ints is
    have any : ∀ l : List Int, D.anyEq (.int i) (l.map D.int) = decide (i ∈ l) := fun l => by
      induction l with
      | nil => rfl
      | cons j l ih =>
        simp only [List.map_cons, D.anyEq, ih, eq_int]
        by_cases h : j = i
        · subst h; simp
        · have : (j == i) = false := by simpa using h
          rw [this, Bool.false_or]
          have h2 : ¬ i = j := fun z => h z.symm
          simp [h2]
    simp only [List.map_cons, D.once, any]
    by_cases h : i ∈ is
    · rw [if_pos (by simpa using h)]
      refine ⟨js, e, n, fun k => ?_⟩
      rw [m, List.mem_cons]
      constructor
      · exact .inr
      · rintro (rfl | z)
        · exact h
        · exact z
    · rw [if_neg (by simpa using h)]
      exact ⟨i :: js, by rw [e]; rfl, List.nodup_cons.mpr ⟨fun z => h ((m i).mp z), n⟩, fun k => by rw [List.mem_cons, List.mem_cons, m]⟩
theorem fit_ints (is : List Int) : Fit (is.map D.int) := by
  refine ⟨fun d hd => ?_, fun x hx y hy => ?_⟩
  · obtain ⟨i, _, rfl⟩ := List.mem_map.mp hd
    exact ⟨0, by simp [D.flat]⟩
  · obtain ⟨i, _, rfl⟩ := List.mem_map.mp hx
    obtain ⟨j, _, rfl⟩ := List.mem_map.mp hy
    simp [D.like]
theorem dle_int (i j : Int) : dle (.int i) (.int j) = decide (i ≤ j) := by
  rw [dle_eq]
  simp only [D.py]
  rw [PySem.W.dataLt_int]
  by_cases h : i ≤ j
  · simp [h]
  · simp [h]; omega
theorem srt_asc {is : List Int} (h : is.Pairwise (· < ·)) : D.srt (is.map D.int) = is.map D.int := by
  refine srt_uniq (srt_perm _) (srt_srtd (fit_ints is) _ fun _ h => h) ?_ fun a ha b hb => fit_anti (fit_ints is) a ((srt_perm _).mem_iff.mp ha) b ((srt_perm _).mem_iff.mp hb)
  rw [List.pairwise_map]
  refine h.imp fun {i j} hij => ?_
  rw [dle_int]
  exact decide_eq_true (Int.le_of_lt hij)
theorem sset_asc {is ns : List Int} (h : ns.Pairwise (· < ·)) (m : ∀ k, k ∈ ns ↔ k ∈ is) : D.srt (D.once (is.map D.int)) = ns.map D.int := by
  obtain ⟨js, e, n, mj⟩ := once_ints is
  have nn : ns.Nodup := h.imp fun {i j} hij => by omega
  have p : js.Perm ns := (List.perm_ext_iff_of_nodup n nn).mpr fun k => by rw [mj, m]
  rw [e, ← srt_asc h]
  exact (srt_of_perm (fit_ints ns) (p.map D.int)).trans (by rw [srt_asc h])
section
variable {X : Cx} {Ex : ExP}
theorem pem_sset {x y : Str} {p p2 q pos : Pos} {a : Expr} {ma : M Opd} (hc : X.calm = true) (hg : Gl X x) (hm : X.mg x = none) (ex : x = "sorted") (hg2 : Gl X y) (hm2 : X.mg y = none) (ey : y = "set") (ha : PEm X Ex a ma) (na : starEach [a] X.env = (false, eval a X.env) :: starEach [] X.env) :
    PEm X Ex (.Call (.Name x p) [.Call (.Name y p2) [a] [] q] [] pos) (M.bind ma ssetO) := by
  subst ex ey
  refine ⟨fun pins s σ H Q I ⟨ι, st, R, h⟩ => ?_⟩
  refine Call_ (ld_blt I hg hm PyProof.Rows.boot_sorted ?_)
  refine PyProof.Rows.callWith_builtin1 (PyProof.Rows.args_cons ?_ rfl) rfl rfl
  refine Call_ (ld_blt I hg2 hm2 PyProof.Rows.boot_set ?_)
  refine PyProof.Rows.callWith_type1 (PyProof.Rows.args_cons (thn (ha.run pins s σ H _ I (ev_next (.refl R) h)) fun v s1 ⟨x, H1, I1, r1, q1⟩ => PyProof.Rows.args_nil ?_) na) na rfl
  obtain ⟨ι1, st1, o1, P1, _, k1, _, q1⟩ := q1
  unfold ssetO at q1
  split at q1
  · rename_i ds
    split at q1
    · rename_i is eis
      split at q1
      · rename_i h64
        have ed := ints_some eis
        subst ed
        cases (show Rep _ _ _ _ _ from k1) with
        | @tup t vs _ hq r =>
          have ev := r.ints eis
          subst ev
          cases r1
          obtain ⟨its, rv, pl, hz⟩ := I1.tuple hq
          refine call_set_tupI is (I1.ok.hd hc) pl (by simpa using rv.ints) (by unfold scanBound; omega) fun h' tk c hS hle hk => ?_
          have hfew : c < 64 := Nat.lt_of_le_of_lt hle h64
          refine PyProof.Rows.args_nil ?_
          refine sorted_set hS (I1.ok.hd hc) hfew fun s2 b out c2 ns k2 g2 o2 hb hob hi hasc hmem hlen => ?_
          have em : ∀ k, k ∈ ns ↔ k ∈ is := fun k => by rw [hmem]; exact decide_eq_true_iff
          have hp : s1.heap.objs.size ≤ b := Nat.le_trans (Nat.le_of_lt hS.lt) hb
          have hfr : H1 b = none := I1.hok.fresh hp
          have keep : ∀ d u, s1.heap.get? d = some u → s2.heap.get? d = some u := fun d u e => k2 d u (hk d u e)
          have hzz : (ns.map V.int).length ≤ sizeLine := by
            rw [List.length_map, hlen, sizeLine_eq]; omega
          refine ⟨.ref b, upd H1 b (.lst (ns.map V.int)), I1.call' (ch := []) o2 (Un.laid keep hp hfr) (I1.hok.laid keep hp ⟨hzz, out.toList, c2, vals_of_ints hi, hob⟩) (by rw [g2]; exact I1.bare) (fun _ z => nomatch z), rfl, ?_⟩
          refine fin_lst P1 hfr ?_ q1
          rw [sset_asc hasc em]
          exact repsI ns
      · exact q1.elim
    · exact q1.elim
  · exact q1.elim
end
end Y

/-! Y16: from the text to the small language. -/
set_option linter.all false
set_option maxRecDepth 100000
set_option Elab.async false
set_option autoImplicit false
namespace Y
open PySem L2
structure FnI where
  name : Str
  id : Nat
  ps : List Str
structure KwI where
  name : Str
  n : Nat
  ks : List Str
  perm : List Nat
structure Cc where
  N : List Str
  sc : Scope
  fns : List FnI
  kwb : List KwI
  cns : List (Str × Nat)
  blts : List Str
  isFn : Bool
def slotOf : List Str → Str → Option Nat
  | [], _ => none
  | y :: ys, x => if y = x then some 0 else (slotOf ys x).map (· + 1)
def findF : List FnI → Str → Option FnI
  | [], _ => none
  | f :: fs, x => if f.name = x then some f else findF fs x
def findC : List (Str × Nat) → Str → Option Nat
  | [], _ => none
  | (y, i) :: fs, x => if y = x then some i else findC fs x
def findK : List KwI → Str → Nat → List Str → Option KwI
  | [], _, _, _ => none
  | q :: qs, x, n, ks => if q.name = x ∧ q.n = n ∧ q.ks = ks then some q else findK qs x n ks
def kindC (C : Cc) (x : Str) : Option NameKind := C.sc.names.lookup x
def varOf (C : Cc) (x : Str) : Option Nat := match kindC C x with
  | some .local => if x = "__debug__" ∨ x = "__classdict__" then none else slotOf C.N x
  | some .cell => if x = "__debug__" ∨ x = "__classdict__" then none else slotOf C.N x
  | some .free => if x = "__debug__" ∨ x = "__classdict__" then none else slotOf C.N x
  | _ => none
/-- a slot that may be stored -/
def stoOf (C : Cc) (x : Str) : Option Nat := match kindC C x with
  | some .local => slotOf C.N x
  | some .cell => if C.isFn = true then slotOf C.N x else none
  | _ => none
def isGl (C : Cc) (x : Str) : Bool := decide (kindC C x = some .globalImplicit) && decide (x ≠ "__name__") && decide (x ≠ "__debug__")
def bltOk (C : Cc) (x : Str) : Bool := isGl C x && C.blts.any fun y => decide (y = x)
def biOf (x : Str) : Option BI :=
  if x = "len" then some .len else if x = "abs" then some .abs else if x = "int" then some .int else if x = "str" then some .str else if x = "sum" then some .sum else if x = "all" then some .all else
  if x = "any" then some .any else if x = "max" then some .max else if x = "min" then some .min else if x = "tuple" then some .tuple else if x = "list" then some .list else if x = "sorted" then some .sorted else none
def tyOfN (x : Str) : Option Ty :=
  if x = "int" then some .int else if x = "bool" then some .bool else if x = "str" then some .str else if x = "tuple" then some .tuple else if x = "list" then some .list else none
def op2Of : Operator → Option Op2
  | .Add => some .add | .Sub => some .sub | .Mult => some .mul | .FloorDiv => some .fdiv | .Mod => some .mod | .Pow => some .pow | .LShift => some .shl | .RShift => some .shr | .BitAnd => some .band
  | _ => none
def cmInv : CmpOp → Option Cm
  | .Eq => some .eq | .NotEq => some .ne | .Lt => some .lt | .LtE => some .le | .Gt => some .gt | .GtE => some .ge | .Is => some .isN | .IsNot => some .notN | .In => some .isIn | .NotIn => some .notIn
def isComp : Expr → Bool
  | .ListComp .. => true | .SetComp .. => true | .DictComp .. => true
  | _ => false
def isSlice : Expr → Bool
  | .Slice .. => true
  | _ => false
def isCall : Expr → Bool
  | .Call .. => true
  | _ => false
def isSet : Expr → Bool
  | .Set .. => true
  | _ => false
def isTup : Expr → Bool
  | .Tuple .. => true
  | .List .. => true
  | _ => false
def isTupT : Expr → Bool
  | .Tuple .. => true
  | _ => false
/-- what is walked stands for any target -/
def plainW : Expr → Bool
  | .Call (.Name x _) _ _ _ => !decide (x = "enumerate")
  | _ => true
def tysC (C : Cc) : List Expr → Option (List Ty)
  | [] => some []
  | .Name y _ :: es => if bltOk C y = true then (match tyOfN y, tysC C es with
    | some t, some ts => some (t :: ts)
    | _, _ => none) else none
  | _ :: _ => none
/-- the block's own names, with their slots -/
def ownOf (N : List Str) : List (Str × NameKind) → List (Str × Nat)
  | [] => []
  | (x, k) :: r => if k = .local ∨ k = .cell then (match slotOf N x with
    | some i => (x, i) :: ownOf N r
    | none => ownOf N r) else ownOf N r
def blkB (N : List Str) (sc scope : Scope) (own : List (Str × Nat)) : Bool :=
  decide (scope.kind = .function) && scope.names.all (fun y => decide (scope.names.lookup y.1 = some y.2)) && own.all (fun p => decide (N[p.2]? = some p.1)) &&
    scope.names.all (fun y => decide (y.2 = .free → sc.names.lookup y.1 = some .cell ∨ sc.names.lookup y.1 = some .free)) &&
    scope.names.all (fun y => decide (y.2 = .local ∨ y.2 = .cell → y.1 ∈ own.map (·.1) ∨ y.1 ∉ N))
def subC (C : Cc) (scope : Scope) : Cc := { C with sc := relS scope C.sc, isFn := false }
mutual
def tgC (C : Cc) : Nat → Expr → Option Tg
  | 0, _ => none
  | n + 1, .Name x _ => (stoOf C x).map .name
  | n + 1, .Tuple es _ _ => (tgsC C n es).map .tup
  | _ + 1, _ => none
def tgsC (C : Cc) : Nat → List Expr → Option (List Tg)
  | 0, _ => none
  | n + 1, [] => some []
  | n + 1, e :: es => if isStar e = true then none else (match tgC C n e, tgsC C n es with
    | some t, some ts => some (t :: ts)
    | _, _ => none)
end
abbrev RE := Cc → Expr → Option IE
abbrev RS := Cc → List Expr → Option IEs
def IEs.len : IEs → Nat
  | .nil => 0
  | .cons _ es => es.len + 1
def cName (C : Cc) (x : Str) : Option IE := match varOf C x with
  | some i => some (.var i)
  | none => if isGl C x = true then (findC C.cns x).map .glob else none
def cConst : Const → Option IE
  | .none => some .non
  | .bool b => some (.bl b)
  | .int i => some (.int i)
  | .str x => some (.str x)
  | _ => none
def cCmp (C : Cc) (r : RE) (a : Expr) (ops : List CmpOp) (bs : List Expr) : Option IE := match ops, bs with
  | [op], [b] => if behindInMarks op b = true then none else (match cmInv op, r C a, r C b with
    | some o, some a, some b => some (.cmp o a b)
    | _, _, _ => none)
  | [op, op'], [b, c] => if lastMarks [op, op'] [b, c] = true then none else (match cmInv op, cmInv op', r C a, r C b, r C c with
    | some o, some o', some a, some b, some c => some (.cmp2 o o' a b c)
    | _, _, _, _, _ => none)
  | _, _ => none
def cBool (C : Cc) (r : RE) (op : BoolOp) : List Expr → Option IE
  | [] => none
  | [a] => r C a
  | a :: b :: rest => match r C a, cBool C r op (b :: rest) with
    | some x, some y => some (match op with | .And => .and x y | .Or => .or x y)
    | _, _ => none
def cPart (C : Cc) (r : RE) : Option Expr → Option IEs
  | none => some .nil
  | some e => (r C e).map fun x => .cons x .nil
def isRev : Option Expr → Option Expr → Option Expr → Bool
  | none, none, some (.UnaryOp .USub (.Constant (.int i) _ _) _) => decide (i = 1)
  | _, _, _ => false
def cSub (C : Cc) (r : RE) (a i : Expr) : Option IE := match i with
  | .Slice lo hi none _ => (match r C a, cPart C r lo, cPart C r hi with
    | some a, some l, some h => some (.cut a l h)
    | _, _, _ => none)
  | .Slice none none (some (.UnaryOp .USub (.Constant (.int 1) _ _) _)) _ => (r C a).map .rev
  | .Slice .. => none
  | i => (match r C a, r C i with
    | some a, some i => some (.sub a i)
    | _, _ => none)
/-- what stands in sorted(set(..)) -/
def setArg (C : Cc) (x : Str) : List Expr → Option Expr
  | [.Call (.Name y _) [a] [] _] => if x = "sorted" ∧ y = "set" ∧ bltOk C y = true ∧ isStar a = false then some a else none
  | _ => none
def cCallN (C : Cc) (r : RE) (rs : RS) (x : Str) (args : List Expr) (kws : List Keyword) : Option IE :=
  if isGl C x = true then (match findF C.fns x with
    | some f => (match kws with
      | [] => if args.length = f.ps.length then (rs C args).map (.call f.id) else none
      | kws => (match kwNames kws with
        | some ks => (match findK C.kwb x args.length ks, rs C args, rs C (kws.map (·.value)) with
          | some q, some es, some ws => if q.perm.length = f.ps.length then some (.callk f.id es ws q.perm) else none
          | _, _, _ => none)
        | none => none))
    | none => if bltOk C x = true ∧ kws.length = 0 then (
        if x = "isinstance" then (match args with
          | [a, .Tuple ts _ _] => if isStar a = true then none else (match r C a, tysC C ts with
            | some a, some ts => if ts.length ≤ 1000 then some (.isi ts a) else none
            | _, _ => none)
          | [a, t] => if isStar a = true then none else (match r C a, tysC C [t] with
            | some a, some [t] => some (.isi [t] a)
            | _, _ => none)
          | _ => none)
        else if x = "range" then (match args with
          | [a] => (rs C [a]).map .rng
          | [a, b] => (rs C [a, b]).map .rng
          | [a, b, c] => (rs C [a, b, c]).map .rng
          | _ => none)
        else if x = "enumerate" then (match args with
          | [a] => if isStar a = true then none else (r C a).map .enum
          | _ => none)
        else (match setArg C x args with
          | some a => (r C a).map .sset
          | none => (match biOf x, args with
            | some b, e :: es => (rs C (e :: es)).map (.bi b)
            | _, _ => none))) else none) else none
def cMeth (C : Cc) (r : RE) (rs : RS) (o : Expr) (m : Str) (apos cpos : Pos) (args : List Expr) (kws : List Keyword) : Option IE :=
  if kws.length = 0 ∧ isCall o = false ∧ (apos.endLine == cpos.line) = true then (
    if m = "append" then (match args with
      | [e] => (match r C o, rs C [e] with
        | some o, some es => some (.meth .append o es)
        | _, _ => none)
      | _ => none)
    else if m = "extend" then (match args with
      | [e] => (match r C o, rs C [e] with
        | some o, some es => some (.meth .extend o es)
        | _, _ => none)
      | _ => none)
    else if m = "insert" then (match args with
      | [e, f] => (match r C o, rs C [e, f] with
        | some o, some es => some (.meth .insert o es)
        | _, _ => none)
      | _ => none)
    else if m = "pop" then (match args with
      | [] => (r C o).map fun o => .meth .pop o .nil
      | [e] => (match r C o, rs C [e] with
        | some o, some es => some (.meth .pop o es)
        | _, _ => none)
      | _ => none)
    else none) else none
def cComp (C : Cc) (r : RE) (rs : RS) (elt tg iter : Expr) (ifs : List Expr) (scope : Scope) : Option IE :=
  if blkB C.N C.sc scope (ownOf C.N scope.names) = true ∧ isSet iter = false ∧ ifs.length ≤ 1 ∧ (isTupT tg || plainW iter) = true then (match tgC (subC C scope) 50 tg, r C iter, r (subC C scope) elt, rs (subC C scope) ifs with
    | some t, some src, some elt, some ifs => if (t.slots.all fun i => decide (i ∈ (ownOf C.N scope.names).map (·.2))) = true then some (.lc ((ownOf C.N scope.names).map (·.2)) elt t src ifs) else none
    | _, _, _, _ => none) else none
/-- .. of two clauses -/
def cComp2 (C : Cc) (r : RE) (rs : RS) (elt tg iter : Expr) (ifs : List Expr) (tg1 iter1 : Expr) (ifs1 : List Expr) (scope : Scope) : Option IE :=
  if (blkB C.N C.sc scope (ownOf C.N scope.names) = true ∧ isSet iter = false ∧ ifs.length ≤ 1 ∧ (isTupT tg || plainW iter) = true) ∧ isSet iter1 = false ∧ ifs1.length ≤ 1 ∧ (isTupT tg1 || plainW iter1) = true then (match tgC (subC C scope) 50 tg, r C iter, rs (subC C scope) ifs, tgC (subC C scope) 50 tg1, r (subC C scope) iter1, rs (subC C scope) ifs1, r (subC C scope) elt with
    | some t, some src, some ifs, some t1, some src1, some ifs1, some elt => if ((t.slots.all fun i => decide (i ∈ (ownOf C.N scope.names).map (·.2))) && t1.slots.all fun i => decide (i ∈ (ownOf C.N scope.names).map (·.2))) = true then some (.lc2 ((ownOf C.N scope.names).map (·.2)) t1.slots elt t src ifs t1 src1 ifs1) else none
    | _, _, _, _, _, _, _ => none) else none
def stepE (r : RE) (rs : RS) (C : Cc) : Expr → Option IE
  | .Name x _ => cName C x
  | .Constant c _ _ => cConst c
  | .Tuple es _ _ => if es.length ≤ 1000 then (rs C es).map .tup else none
  | .List es _ => if es.length ≤ 1000 then (rs C es).map .lst else none
  | .BinOp a op b _ => (match op2Of op, r C a, r C b with
    | some o, some a, some b => some (.bin o a b)
    | _, _, _ => none)
  | .UnaryOp .USub a _ => (r C a).map .neg
  | .UnaryOp .Not a _ => (r C a).map .not
  | .Compare a ops bs _ => cCmp C r a ops bs
  | .BoolOp op (a :: b :: rest) _ => cBool C r op (a :: b :: rest)
  | .IfExp c a b _ => (match r C c, r C a, r C b with
    | some c, some a, some b => some (.ife c a b)
    | _, _, _ => none)
  | .Subscript a i _ => cSub C r a i
  | .Call (.Name x _) args kws _ => cCallN C r rs x args kws
  | .Call (.Attribute o m apos) args kws cpos => cMeth C r rs o m apos cpos args kws
  | .ListComp elt [⟨tg, iter, ifs, 0⟩] scope _ => cComp C r rs elt tg iter ifs scope
  | .ListComp elt [⟨tg, iter, ifs, 0⟩, ⟨tg1, iter1, ifs1, 0⟩] scope _ => cComp2 C r rs elt tg iter ifs tg1 iter1 ifs1 scope
  | _ => none
def stepEs (r : RE) (rs : RS) (C : Cc) : List Expr → Option IEs
  | [] => some .nil
  | e :: es => if isStar e = true then none else (match r C e, rs C es with
    | some x, some xs => some (.cons x xs)
    | _, _ => none)
mutual
def compE : Nat → RE
  | 0 => fun _ _ => none
  | n + 1 => stepE (compE n) (compEs n)
def compEs : Nat → RS
  | 0 => fun _ _ => none
  | n + 1 => stepEs (compE n) (compEs n)
end
/-! ### statements -/
abbrev RB := Cc → List Stmt → Option ISs
/-- the comprehension is stored as one step -/
def swapB (C : Cc) (e : Expr) (t : Str) (pos : Pos) : Bool := match e with
  | .ListComp _ _ s _ => decide (kindC C t = some .local) && pos.line == e.pos.line && !(s.names.any fun (n, k) => n == t && (k == .local || k == .cell))
  | _ => false
def parB (C : Cc) (x y : Str) (px py : Pos) (a b : Expr) : Bool :=
  decide (kindC C x = some .local) && decide (kindC C y = some .local) && px.line == px.line && py.line == px.line && !(x == y) && !(isStar a) && !(isStar b) && !(foldedForSure 8 a && foldedForSure 8 b) && !(constantsAlone 8 a && constantsAlone 8 b)
/-- some target is no plain local name -/
def anyNL (C : Cc) (ts : List Expr) : Bool := ts.any fun t => match t with
  | .Name x _ => !decide (kindC C x = some .local)
  | _ => true
def cAsg (C : Cc) (r : RE) (tg e : Expr) : Option IS := match tg with
  | .Name x p => (match stoOf C x with
    | some i => if isComp e = true then (if swapB C e x p = true ∨ (swapB C e x p = false) then (r C e).map (.set i) else none) else (r C e).map (.set i)
    | none => none)
  | .Subscript o i _ => if isComp e = true ∨ isSlice i = true then none else (match r C e, r C o, r C i with
    | some v, some o, some i => some (.put o i v)
    | _, _, _ => none)
  | .Tuple ts k p => if isComp e = true then none else (match tgC C 50 (.Tuple ts k p), r C e with
      | some t, some e' => (match ts, e with
        | [.Name x px, .Name y py], .Tuple [a, b] _ _ => if parB C x y px py a b = true then (match stoOf C x, stoOf C y, r C a, r C b with
            | some i, some j, some a, some b => some (.par i j a b)
            | _, _, _, _ => none) else if (!(foldedForSure 8 a && foldedForSure 8 b) && !anyNL C ts) = true then none else some (.asg t e')
        | _, .Tuple vs _ _ => if (vs.all (foldedForSure 8) || anyNL C ts) = true then some (.asg t e') else none
        | _, .List .. => none
        | _, _ => some (.asg t e'))
      | _, _ => none)
  | _ => none
def stepS (r : RE) (rb : RB) (C : Cc) : Stmt → Option IS
  | .Expr (.Constant (.str _) _ _) _ => some .pass
  | .Expr e _ => if isComp e = true then none else (r C e).map .expr
  | .Return (some e) _ => (r C e).map .ret
  | .Return none _ => some .retN
  | .Assign [tg] e _ => cAsg C r tg e
  | .AugAssign (.Name x _) .Add e _ => (match stoOf C x, r C e with
    | some i, some e => some (.aug i e)
    | _, _ => none)
  | .If c a b _ => (match r C c, rb C a, rb C b with
    | some c, some a, some b => some (.ife c a b)
    | _, _, _ => none)
  | .While c b [] _ => (match r C c, rb C b with
    | some c, some b => some (.whl c b)
    | _, _ => none)
  | .For tg iter b [] _ => if isSet iter = true ∨ (isTupT tg || plainW iter) = false then none else (match tgC C 50 tg, r C iter, rb C b with
    | some t, some src, some b => some (.fo t src b)
    | _, _, _ => none)
  | .Break _ => some .brk
  | .Continue _ => some .cont
  | .Pass _ => some .pass
  | _ => none
def compSs (k : Nat) : Nat → RB
  | 0 => fun _ _ => none
  | n + 1 => fun C ss => match ss with
    | [] => some .nil
    | s :: ss => (match stepS (compE k) (compSs k n) C s, compSs k n C ss with
      | some x, some xs => some (.cons x xs)
      | _, _ => none)
end Y

/-! Y17: the small language's programs mean what the text does: expressions. -/
set_option linter.all false
set_option maxRecDepth 100000
set_option Elab.async false
set_option autoImplicit false
set_option maxHeartbeats 1000000
namespace Y
open PySem PySem.Spec L2 PyProof.Rows
/-- a function that may be called -/
structure CallAt (X : Cx) (Ex : ExP) (f : FnI) (kwb : List KwI) (fn : FnD) : Prop where
  ex : ∃ (CX : CXT) (k : Nat) (fa : Addr) (fd : FuncData) (XR : XRT) (E : XK), FnOk X.prog X.w X.K X.mg X.base CX k fa fd f.ps (spD X.K XR f.ps.length fn) ∧ Room k X.A ∧ X.mg f.name = some (.ref fa) ∧ PySem.W.keepIn X.K (.ref fa) = true ∧ Binds X.K fd f.ps [] ∧ Passes CX X E ∧
    (∀ x ι' s' σ H', Ex.hit x ι' s' σ H' → ∀ c o, XR x c o ι' H' → E c o H') ∧ (∀ X' : Cx, Passes CX X' E0) ∧ ∀ q ∈ kwb, q.name = f.name → KBn X.K fd f.ps q.n q.ks (permU q.perm) (permV q.perm)
/-- a name of the module -/
def GlobAt (X : Cx) (x : Str) (o : Opd) : Prop := ∀ (X' : Cx) (Ex' : ExP), X'.prog = X.prog → X'.w = X.w → X'.K = X.K → X'.mg = X.mg → X'.base = X.base → Gl X' x → ∀ pos, PEm X' Ex' (.Name x pos) (M.pure o)
structure CtxOk (C : Cc) (X : Cx) (Ex : ExP) (T : Tb) : Prop where
  hN : X.N = C.N
  nd : C.N.Nodup
  sc : X.env.scope = C.sc
  calm : X.calm = true
  hu : X.A.units + 65 < cLine
  fn : C.isFn = true → ∀ x, X.fn x = true
  blt : ∀ x ∈ C.blts, X.mg x = none
  fns : ∀ x f, findF C.fns x = some f → CallAt X Ex f C.kwb (T.fn f.id)
  cns : ∀ x i, findC C.cns x = some i → GlobAt X x (T.cn i)
theorem CallAt.blk {X : Cx} {Ex : ExP} {f : FnI} {kwb : List KwI} {fn : FnD} (h : CallAt X Ex f kwb fn) (s : Shared) (H : Hp) (scope : Scope) (cenv : Env) (fp : List Addr) : CallAt (X.blk s H scope cenv fp) Ex0 f kwb fn := by
  obtain ⟨CX, k, fa, fd, XR, E, h1, h2, h3, h4, h5, h6, h7, h8, h9⟩ := h.ex
  exact ⟨CX, k, fa, fd, XR, E0, h1, h2, h3, h4, h5, h8 _, fun x ι' s' σ H' z => z.elim, h8, h9⟩
theorem CtxOk.blk {C : Cc} {X : Cx} {Ex : ExP} {T : Tb} (h : CtxOk C X Ex T) (s : Shared) (H : Hp) (scope : Scope) (cl : List (Str × Addr)) (A : Addr) (fp : List Addr) : CtxOk (subC C scope) (X.blk s H scope (compEnvC scope cl A X.env) fp) Ex0 T :=
  ⟨h.hN, h.nd, by show relS scope X.env.scope = relS scope C.sc; rw [h.sc], h.calm, h.hu, (fun z => by cases z), h.blt, fun x f e => (h.fns x f e).blk s H scope _ fp, fun x i e => h.cns x i e⟩
theorem slotOf_ok : ∀ {N : List Str} {x : Str} {i : Nat}, slotOf N x = some i → N[i]? = some x
  | [], x, i, h => by cases h
  | y :: ys, x, i, h => by
    unfold slotOf at h
    split at h
    · rename_i e; cases h; rw [e]; rfl
    · cases e : slotOf ys x with
      | none => rw [e] at h; cases h
      | some j => rw [e] at h; cases h; have := slotOf_ok e; simpa using this
theorem findF_ok : ∀ {fs : List FnI} {x : Str} {f : FnI}, findF fs x = some f → f.name = x
  | [], x, f, h => by cases h
  | g :: fs, x, f, h => by
    unfold findF at h
    split at h
    · rename_i e; cases h; exact e
    · exact findF_ok h
theorem findK_ok : ∀ {fs : List KwI} {x : Str} {n : Nat} {ks : List Str} {q : KwI}, findK fs x n ks = some q → q ∈ fs ∧ q.name = x ∧ q.n = n ∧ q.ks = ks
  | [], x, n, ks, f, h => by cases h
  | g :: fs, x, n, ks, f, h => by
    unfold findK at h
    split at h
    · rename_i e; cases h; exact ⟨List.mem_cons_self .., e⟩
    · obtain ⟨m, e⟩ := findK_ok h; exact ⟨List.mem_cons_of_mem _ m, e⟩
section
variable {C : Cc} {X : Cx} {Ex : ExP} {T : Tb}
theorem CtxOk.slot (h : CtxOk C X Ex T) {x : Str} {i : Nat} (e : slotOf C.N x = some i) : X.N[i]? = some x := by rw [h.hN]; exact slotOf_ok e
theorem CtxOk.var (h : CtxOk C X Ex T) {x : Str} {i : Nat} (e : varOf C x = some i) : X.N[i]? = some x ∧ Vis X.env.scope x ∧ (x == ("__debug__" : Str)) = false ∧ (x == ("__classdict__" : Str)) = false := by
  have go : (if x = "__debug__" ∨ x = "__classdict__" then none else slotOf C.N x) = some i → X.N[i]? = some x ∧ (x == ("__debug__" : Str)) = false ∧ (x == ("__classdict__" : Str)) = false := fun q => by
    split at q
    · cases q
    · rename_i n
      rw [not_or] at n
      exact ⟨h.slot q, beq_false_of_ne n.1, beq_false_of_ne n.2⟩
  unfold varOf kindC at e
  split at e
  · rename_i k; obtain ⟨a, b⟩ := go e; exact ⟨a, .inl (by rw [h.sc]; exact k), b⟩
  · rename_i k; obtain ⟨a, b⟩ := go e; exact ⟨a, .inr (.inl (by rw [h.sc]; exact k)), b⟩
  · rename_i k; obtain ⟨a, b⟩ := go e; exact ⟨a, .inr (.inr (by rw [h.sc]; exact k)), b⟩
  · cases e
theorem CtxOk.sto (h : CtxOk C X Ex T) {x : Str} {i : Nat} (e : stoOf C x = some i) : X.N[i]? = some x ∧ Loc X.env.scope x ∧ (X.fn x = true ∨ X.env.scope.names.lookup x = some .local) := by
  unfold stoOf kindC at e
  split at e
  · rename_i k
    have k : X.env.scope.names.lookup x = some .local := by rw [h.sc]; exact k
    exact ⟨h.slot e, .inl k, .inr k⟩
  · rename_i k
    have k : X.env.scope.names.lookup x = some .cell := by rw [h.sc]; exact k
    split at e
    · rename_i f; exact ⟨h.slot e, .inr k, .inl (h.fn f x)⟩
    · cases e
  · cases e
theorem CtxOk.gl (h : CtxOk C X Ex T) {x : Str} (e : isGl C x = true) : Gl X x ∧ x ≠ "__name__" ∧ (x == ("__debug__" : Str)) = false := by
  unfold isGl at e
  simp only [Bool.and_eq_true, decide_eq_true_eq] at e
  exact ⟨by show X.env.scope.names.lookup x = _; rw [h.sc]; exact e.1.1, e.1.2, beq_false_of_ne e.2⟩
theorem CtxOk.bl (h : CtxOk C X Ex T) {x : Str} (e : bltOk C x = true) : Gl X x ∧ x ≠ "__name__" ∧ (x == ("__debug__" : Str)) = false ∧ X.mg x = none := by
  unfold bltOk at e
  rw [Bool.and_eq_true] at e
  obtain ⟨a, b, c⟩ := h.gl e.1
  refine ⟨a, b, c, ?_⟩
  obtain ⟨y, hy, ey⟩ := List.any_eq_true.mp e.2
  have : y = x := of_decide_eq_true ey
  subst this
  exact h.blt y hy
theorem biOf_ok {x : Str} {b : BI} (h : biOf x = some b) : bootBuiltins x = some (bnOf b) := by
  unfold biOf at h
  repeat' split at h
  all_goals first | cases h; done | (cases h; subst_vars; first | rfl | decide +kernel)
theorem tyOfN_ok {x : Str} {t : Ty} (h : tyOfN x = some t) : bootBuiltins x = some (.type (tyName t)) ∧ t ≠ .non := by
  unfold tyOfN at h
  repeat' split at h
  all_goals first | cases h; done | (cases h; subst_vars; exact ⟨by first | rfl | decide +kernel, by intro z; cases z⟩)
/-! ### the readings -/
structure Snd (X : Cx) (Ex : ExP) (e : Expr) (m : Mean) : Prop where
  E : PEm X Ex e m.E
  T : PTm X Ex e m.T
  I : ∀ tg, (isTupT tg || plainW e) = true → PIm X Ex tg e m.I
structure Sns (X : Cx) (Ex : ExP) (es : List Expr) (ms : List Mean) : Prop where
  o : PAo X Ex es (mOs ms)
  d : PAd X Ex es (mDs ms)
  len : ms.length = es.length
  star : noStar es = true
  t : es.length ≤ 1 → PTs X es (tT X.K Ex (mIfs ms))
  k : ∀ kws : List Keyword, kws.map (·.value) = es → PKd X Ex kws (mDs ms)
theorem pem_stuck {e : Expr} : PEm X Ex e stuckM := ⟨fun pins s σ H Q I ⟨ι, s', R, q⟩ => q.elim⟩
theorem ptm_stuck {e : Expr} : PTm X Ex e stuckM := ⟨fun pins s σ H Q I ⟨ι, s', R, q⟩ => q.elim⟩
theorem pim_stuck {tg e : Expr} : PIm X Ex tg e stuckM := ⟨fun pins s σ H Q I ⟨ι, s', R, q⟩ => q.elim⟩
theorem snd_of {e : Expr} {m : M Opd} (h : PEm X Ex e m) (he : ∀ whole, isTrue e X.env whole = (do let v ← whole; standAt e.pos; holding [v] (truthy v))) : Snd X Ex e (mean m) := ⟨h, ptm_of h he, fun _ _ => pim_of h⟩
theorem sns_nil : Sns X Ex [] [] := ⟨pao_nil, pad_nil, rfl, rfl, fun _ => ptsm_nil, fun kws h => by
  cases kws with
  | nil => exact pkd_nil
  | cons _ _ => cases h⟩
theorem sns_cons {e : Expr} {es : List Expr} {m : Mean} {ms : List Mean} (h : Snd X Ex e m) (hs : Sns X Ex es ms) (st : isStar e = false) : Sns X Ex (e :: es) (m :: ms) := by
  refine ⟨pao_cons h.E hs.o (star_cons es st), pad_cons h.E hs.d (star_cons es st), by simp [hs.len], by simp [noStar, st, hs.star], fun l => ?_, fun kws hk => ?_⟩
  · have he : es = [] := List.length_eq_zero_iff.mp (by rw [List.length_cons] at l; omega)
    subst he
    have hm : ms = [] := List.length_eq_zero_iff.mp hs.len
    subst hm
    exact ptsm_one h.T
  · cases kws with
    | nil => cases hk
    | cons kw kws =>
      obtain ⟨a, v, p⟩ := kw
      simp only [List.map_cons, List.cons.injEq] at hk
      obtain ⟨rfl, hk⟩ := hk
      exact pkd_cons h.E (hs.k kws hk)
theorem snd_bool {r : RE} {op : BoolOp} {pos : Pos} (hr : ∀ e ie, r C e = some ie → Snd X Ex e (sem T ie)) : ∀ {es : List Expr} {ie : IE}, cBool C r op es = some ie → PEm X Ex (.BoolOp op es pos) (sem T ie).E ∧ PW X (.BoolOp op es pos) (tT X.K Ex (sem T ie).T) ∧ (2 ≤ es.length → (sem T ie).I = stuckM)
  | [], ie, h => by cases h
  | [a], ie, h => by
    have ha := hr a ie h
    refine ⟨pe_one ha.E, ?_, fun l => by simp at l⟩
    cases op with
    | And => exact pw_and1 ha.T
    | Or => exact pw_or1 ha.T
  | a :: b :: rest, ie, h => by
    unfold cBool at h
    split at h
    · rename_i x y ex ey
      cases h
      have ha := hr a x ex
      obtain ⟨hb, hw, _⟩ := snd_bool hr ey
      cases op with
      | And =>
        simp only [sem]
        exact ⟨pem_and ha.E hb, ptm_and ha.T hw, fun _ => trivial⟩
      | Or =>
        simp only [sem]
        exact ⟨pem_or ha.E hb, ptm_or ha.T hw, fun _ => trivial⟩
    · cases h
theorem op2Of_ok {op : Operator} {o : Op2} (h : op2Of op = some o) : op = opOf o := by
  cases op <;> cases h <;> rfl
theorem cmInv_ok {op : CmpOp} {o : Cm} (h : cmInv op = some o) : op = cmOf o := by
  cases op <;> cases h <;> rfl
theorem snd_cmp {r : RE} {pos : Pos} (hc : CtxOk C X Ex T) (hr : ∀ e ie, r C e = some ie → Snd X Ex e (sem T ie)) {a : Expr} {ops : List CmpOp} {bs : List Expr} {ie : IE} (h : cCmp C r a ops bs = some ie) : Snd X Ex (.Compare a ops bs pos) (sem T ie) := by
  unfold cCmp at h
  split at h
  · rename_i op b
    split at h
    · cases h
    · rename_i hm
      split at h
      · rename_i o x y eo ex ey
        cases h
        have hm : behindInMarks op b = false := by simpa using hm
        have ha := (hr a x ex).E
        have hb := (hr b y ey).E
        simp only [sem]
        exact ⟨pem_cmp hc.hu (cmInv_ok eo) ha hb hm, ptm_cmp hc.hu (cmInv_ok eo) ha hb hm, fun _ _ => pim_of (pem_cmp hc.hu (cmInv_ok eo) ha hb hm)⟩
      · cases h
  · rename_i op op' b c
    split at h
    · cases h
    · rename_i hm
      split at h
      · rename_i o o' x y z eo eo' ex ey ez
        cases h
        have hm : lastMarks [op, op'] [b, c] = false := by simpa using hm
        have ha := (hr a x ex).E
        have hb := (hr b y ey).E
        have hz := (hr c z ez).E
        simp only [sem]
        exact ⟨pem_cmp2 hc.hu (cmInv_ok eo) (cmInv_ok eo') ha hb hz hm, ptm_cmp2 hc.hu (cmInv_ok eo) (cmInv_ok eo') ha hb hz hm, fun _ _ => pim_of (pem_cmp2 hc.hu (cmInv_ok eo) (cmInv_ok eo') ha hb hz hm)⟩
      · cases h
  · cases h
theorem snd_part {r : RE} (hr : ∀ e ie, r C e = some ie → Snd X Ex e (sem T ie)) {o : Option Expr} {l : IEs} (h : cPart C r o = some l) : PO X o (tP X.K Ex (mPart (sems T l))) := by
  cases o with
  | none => cases h; simp only [sems]; exact pom_none
  | some e =>
    simp only [cPart] at h
    cases ex : r C e with
    | none => rw [ex] at h; cases h
    | some x =>
      rw [ex] at h
      cases h
      simp only [sems]
      exact pom_some (hr e x ex).E
theorem snd_sub {r : RE} {pos : Pos} (hr : ∀ e ie, r C e = some ie → Snd X Ex e (sem T ie)) {a i : Expr} {ie : IE} (h : cSub C r a i = some ie) : Snd X Ex (.Subscript a i pos) (sem T ie) := by
  unfold cSub at h
  split at h
  · split at h
    · rename_i x l hh ex el eh
      cases h
      simp only [sem]
      exact snd_of (pem_cut (hr a x ex).E (snd_part hr el) (snd_part hr eh)) fun _ => rfl
    · cases h
  · cases ex : r C a with
    | none => rw [ex] at h; cases h
    | some x =>
      rw [ex] at h
      cases h
      simp only [sem]
      exact snd_of (pem_rev (hr a x ex).E) fun _ => rfl
  · cases h
  · rename_i n1 n2 n3
    split at h
    · rename_i x y ex ey
      cases h
      simp only [sem]
      refine snd_of (pem_sub (hr a x ex).E (hr i y ey).E ?_) fun _ => rfl
      intro o j
      cases i <;> first | rfl | (exact (n3 _ _ _ _ rfl).elim)
    · cases h
end
end Y

/-! Y18: .. calls, comprehensions, all expressions. -/
set_option linter.all false
set_option maxRecDepth 100000
set_option Elab.async false
set_option autoImplicit false
set_option maxHeartbeats 1000000
namespace Y
open PySem PySem.Spec L2 PyProof.Rows
section
variable {C : Cc} {X : Cx} {Ex : ExP} {T : Tb}
theorem snd_name {x : Str} {pos : Pos} (hc : CtxOk C X Ex T) {ie : IE} (h : cName C x = some ie) : Snd X Ex (.Name x pos) (sem T ie) := by
  unfold cName at h
  split at h
  · rename_i i ei
    cases h
    obtain ⟨h1, h2, h3, h4⟩ := hc.var ei
    simp only [sem]
    exact snd_of (pem_var h1 h2 h3 h4) fun _ => rfl
  · split at h
    · rename_i g
      cases e : findC C.cns x with
      | none => rw [e] at h; cases h
      | some i =>
        rw [e] at h
        cases h
        simp only [sem]
        exact snd_of (hc.cns x i e X Ex rfl rfl rfl rfl rfl (hc.gl g).1 pos) fun _ => rfl
    · cases h
theorem snd_const {c : Const} {j : Nat} {pos : Pos} {ie : IE} (h : cConst c = some ie) : Snd X Ex (.Constant c j pos) (sem T ie) := by
  cases c with
  | none => cases h; simp only [sem]; exact snd_of (pem_val pe_non fun _ _ _ => .non) fun _ => rfl
  | bool b => cases h; simp only [sem]; exact snd_of (pem_val pe_bl fun _ _ _ => .bl b) fun _ => rfl
  | int i => cases h; simp only [sem]; exact snd_of (pem_val pe_int fun _ _ _ => .int i) fun _ => rfl
  | str x => cases h; simp only [sem]; exact snd_of (pem_val pe_str fun _ _ _ => .str x) fun _ => rfl
  | _ => cases h
theorem tys_ok (hc : CtxOk C X Ex T) : ∀ {es : List Expr} {ts : List Ty}, tysC C es = some ts → PTys X es ts ∧ ∀ t ∈ ts, t ≠ .non
  | [], ts, h => by cases h; exact ⟨ptys_nil, by simp⟩
  | e :: es, ts, h => by
    cases e with
    | Name y p =>
      simp only [tysC] at h
      split at h
      · rename_i hb
        split at h
        · rename_i t ts' et ets
          cases h
          obtain ⟨g1, g2, g3, g4⟩ := hc.bl hb
          obtain ⟨q1, q2⟩ := tys_ok hc ets
          obtain ⟨b1, b2⟩ := tyOfN_ok et
          exact ⟨ptys_cons g1 g4 b1 g2 g3 q1, by
            intro t' ht'
            rcases List.mem_cons.mp ht' with rfl | ht'
            · exact b2
            · exact q2 t' ht'⟩
        · cases h
      · cases h
    | _ => simp only [tysC] at h; cases h
theorem kwNames_len : ∀ {kws : List Keyword} {ks : List Str}, kwNames kws = some ks → ks.length = kws.length
  | [], ks, h => by cases h; rfl
  | ⟨none, _, _⟩ :: _, _, h => by cases h
  | ⟨some x, e, p⟩ :: kws, ks, h => by
    unfold kwNames at h
    cases e2 : kwNames kws with
    | none => rw [e2] at h; cases h
    | some xs =>
      rw [e2] at h
      cases h
      rw [List.length_cons, List.length_cons, kwNames_len e2]
theorem setArg_ok {x : Str} {args : List Expr} {a : Expr} (h : setArg C x args = some a) : ∃ p2 q, x = "sorted" ∧ args = [.Call (.Name "set" p2) [a] [] q] ∧ bltOk C "set" = true ∧ isStar a = false := by
  unfold setArg at h
  split at h
  · split at h
    · rename_i hh
      cases h
      obtain ⟨h1, rfl, h3, h4⟩ := hh
      exact ⟨_, _, h1, rfl, h3, h4⟩
    · cases h
  · cases h
theorem snd_rng {e : Expr} {m : M Walk} (h : ∀ tg, (isTupT tg || plainW e) = true → PIm X Ex tg e m) : Snd X Ex e ⟨stuckM, stuckM, m⟩ := ⟨pem_stuck, ptm_stuck, h⟩
theorem snd_callN {r : RE} {rs : RS} {pos p : Pos} (hc : CtxOk C X Ex T) (hr : ∀ e ie, r C e = some ie → Snd X Ex e (sem T ie)) (hrs : ∀ es ies, rs C es = some ies → Sns X Ex es (sems T ies)) {x : Str} {args : List Expr} {kws : List Keyword} {ie : IE} (h : cCallN C r rs x args kws = some ie) :
    Snd X Ex (.Call (.Name x p) args kws pos) (sem T ie) := by
  unfold cCallN at h
  split at h
  · rename_i g
    obtain ⟨hg, hnn, hdd⟩ := hc.gl g
    split at h
    · rename_i f ef
      have en := findF_ok ef
      obtain ⟨CX, k, fa, fd, XR, E, F, rm, hm, hk, hb, hx, hE, _, hkb⟩ := (hc.fns x f ef).ex
      rw [en] at hm
      split at h
      · split at h
        · rename_i hl
          cases es : rs C args with
          | none => rw [es] at h; cases h
          | some ies =>
            rw [es] at h
            cases h
            have S := hrs args ies es
            simp only [sem]
            refine snd_of ?_ fun _ => rfl
            cases args with
            | nil =>
              have e0 : f.ps.length = 0 := hl.symm
              rw [e0] at F
              have e1 : sems T ies = [] := List.length_eq_zero_iff.mp S.len
              rw [e1]
              exact pem_call0 F rm hg hm hk hb hx hE hdd
            | cons e es' =>
              have st := S.star
              simp only [noStar, Bool.and_eq_true, Bool.not_eq_true'] at st
              exact pem_call F rm hg hm hk hb hx hE (fun s ds s' q => by rw [mDs_length q, S.len, hl]) S.d hdd (star_cons es' st.1) (noStar_any st.2)
        · cases h
      · split at h
        · rename_i ks ek
          split at h
          · rename_i q es ws eq ees ews
            split at h
            · rename_i hl
              cases h
              obtain ⟨hq, q1, q2, q3⟩ := findK_ok eq
              have kb := hkb q hq (q1.trans en.symm)
              rw [q2, q3] at kb
              have S := hrs _ _ ees
              have W := hrs _ _ ews
              simp only [sem]
              refine snd_of ?_ fun _ => rfl
              rw [← hl] at F
              have hkn : ks.length = kws.length := kwNames_len ek
              exact pem_callK F rm hg hm hk kb hx hE S.d (W.k kws rfl) S.len (by rw [W.len, List.length_map, hkn]) hdd S.star ek
            · cases h
          · cases h
        · cases h
    · split at h
      · rename_i hbl
        obtain ⟨hbl, hkl⟩ := hbl
        have hkw : kws = [] := List.length_eq_zero_iff.mp hkl
        subst hkw
        obtain ⟨g1, g2, g3, g4⟩ := hc.bl hbl
        split at h
        · rename_i ex
          split at h
          · rename_i a ts k p2
            split at h
            · cases h
            rename_i nst
            have nst : isStar a = false := by simpa using nst
            split at h
            · rename_i x1 ts' ex1 ets
              split at h
              · rename_i hz
                cases h
                have A := hr a x1 ex1
                obtain ⟨q1, q2⟩ := tys_ok hc ets
                simp only [sem]
                exact snd_of (pem_isiT g1 g4 ex q1 q2 hz A.E (star_cons _ nst)) fun _ => rfl
              · cases h
            · cases h
          · rename_i a t hnt
            split at h
            · cases h
            rename_i nst
            have nst : isStar a = false := by simpa using nst
            split at h
            · rename_i x1 t' ex1 ets
              cases h
              have A := hr a x1 ex1
              simp only [sem]
              cases t with
              | Name y p2 =>
                simp only [tysC] at ets
                split at ets
                · rename_i hb
                  split at ets
                  · rename_i t2 ts2 et2 ets2
                    cases ets
                    obtain ⟨i1, i2, i3, i4⟩ := hc.bl hb
                    obtain ⟨b1, b2⟩ := tyOfN_ok et2
                    exact snd_of (pem_isi1 g1 g4 ex i1 i4 b1 b2 A.E i2 i3 (star_cons _ nst)) fun _ => rfl
                  · cases ets
                · cases ets
              | _ => simp only [tysC] at ets; cases ets
            · cases h
          · cases h
        · split at h
          · rename_i nx ex
            subst ex
            split at h
            · rename_i a
              cases es : rs C [a] with
              | none => rw [es] at h; cases h
              | some ies =>
                rw [es] at h; cases h
                have S := hrs _ _ es
                simp only [sem]
                have st := S.star
                simp only [noStar, Bool.and_eq_true, Bool.not_eq_true'] at st
                have l := S.len
                match hm : sems T ies, l with
                | [m], _ => exact snd_rng fun tg _ => pim_rng1 g1 g4 (hm ▸ S.o) (star_cons [] st.1)
            · rename_i a b
              cases es : rs C [a, b] with
              | none => rw [es] at h; cases h
              | some ies =>
                rw [es] at h; cases h
                have S := hrs _ _ es
                simp only [sem]
                have st := S.star
                simp only [noStar, Bool.and_eq_true, Bool.not_eq_true'] at st
                have l := S.len
                match hm : sems T ies, l with
                | [m, m'], _ => exact snd_rng fun tg _ => pim_rng2 g1 g4 (hm ▸ S.o) (by rw [star_cons [b] st.1, star_cons [] st.2.1]; rfl) (by rw [star_cons [] st.2.1]; rfl)
            · rename_i a b c
              cases es : rs C [a, b, c] with
              | none => rw [es] at h; cases h
              | some ies =>
                rw [es] at h; cases h
                have S := hrs _ _ es
                simp only [sem]
                have st := S.star
                have st2 : noStar [b, c] = true := by
                  simp only [noStar, Bool.and_eq_true] at st ⊢
                  exact st.2
                simp only [noStar, Bool.and_eq_true, Bool.not_eq_true'] at st
                have l := S.len
                match hm : sems T ies, l with
                | [m, m', m2], _ => exact snd_rng fun tg _ => pim_rng3 g1 g4 (hm ▸ S.o) (star_cons _ st.1) (noStar_any st2)
            · cases h
          · split at h
            · rename_i nr ex
              subst ex
              split at h
              · rename_i a
                split at h
                · cases h
                · rename_i nst
                  cases ea : r C a with
                  | none => rw [ea] at h; cases h
                  | some x =>
                    rw [ea] at h; cases h
                    simp only [sem]
                    refine ⟨pem_stuck, ptm_stuck, fun tg hw => ?_⟩
                    have hw : isTupT tg = true := by simpa [plainW] using hw
                    cases tg with
                    | Tuple elts kk tpos => exact pim_enum g1 g4 (hr _ _ ea).E (by simpa using nst)
                    | _ => cases hw
              · cases h
            · split at h
              · rename_i a ea
                obtain ⟨p2, q, ex, rfl, hb, nst⟩ := setArg_ok ea
                cases eb : r C a with
                | none => rw [eb] at h; cases h
                | some ie =>
                  rw [eb] at h; cases h
                  obtain ⟨i1, i2, i3, i4⟩ := hc.bl hb
                  simp only [sem]
                  exact snd_of (pem_sset hc.calm g1 g4 ex i1 i4 rfl (hr a ie eb).E (star_cons _ nst)) fun _ => rfl
              · split at h
                · rename_i b e es eb hsn
                  cases ees : rs C (e :: es) with
                  | none => rw [ees] at h; cases h
                  | some ies =>
                    rw [ees] at h; cases h
                    have S := hrs _ _ ees
                    have st := S.star
                    simp only [noStar, Bool.and_eq_true, Bool.not_eq_true'] at st
                    simp only [sem]
                    exact snd_of (pem_bi hc.calm hc.hu g1 g4 (biOf_ok eb) S.o g2 g3 (star_cons es st.1) (noStar_any st.2)) fun _ => rfl
                · cases h
      · cases h
  · cases h
theorem base_ok {o : Expr} {env : Env} (m : Str) (h : isCall o = false) : attributeBase o m env (eval o env) = eval o env := by
  cases o <;> first | rfl | cases h
theorem few_ok {e : Expr} {cpos : Pos} {env : Env} (st : isStar e = false) : ((backTo cpos (starEach [e] env)).all (fun x => !x.1) && (backToKw cpos (keywordEach [] env)).all (fun x => x.1.isSome)
      && decide (([e] : List Expr).length + ([] : List Keyword).length + (if ([] : List Keyword).isEmpty then 0 else 1) < 30)) = true := by
  rw [noStar_all (es := [e]) (by simp [noStar, st])]
  rfl
theorem few2_ok {e f : Expr} {cpos : Pos} {env : Env} (st : isStar e = false) (st2 : isStar f = false) : ((backTo cpos (starEach [e, f] env)).all (fun x => !x.1) && (backToKw cpos (keywordEach [] env)).all (fun x => x.1.isSome)
      && decide (([e, f] : List Expr).length + ([] : List Keyword).length + (if ([] : List Keyword).isEmpty then 0 else 1) < 30)) = true := by
  rw [noStar_all (es := [e, f]) (by simp [noStar, st, st2])]
  rfl
theorem snd_meth {r : RE} {rs : RS} {apos cpos : Pos} (hr : ∀ e ie, r C e = some ie → Snd X Ex e (sem T ie)) (hrs : ∀ es ies, rs C es = some ies → Sns X Ex es (sems T ies)) {o : Expr} {m : Str} {args : List Expr} {kws : List Keyword} {ie : IE} (h : cMeth C r rs o m apos cpos args kws = some ie) :
    Snd X Ex (.Call (.Attribute o m apos) args kws cpos) (sem T ie) := by
  unfold cMeth at h
  split at h
  · rename_i hh
    obtain ⟨hkl, hcl, hline⟩ := hh
    have hkw : kws = [] := List.length_eq_zero_iff.mp hkl
    subst hkw
    split at h
    · rename_i em
      subst em
      split at h
      · rename_i e
        split at h
        · rename_i x es ex ees
          cases h
          have S := hrs _ _ ees
          have st := S.star
          simp only [noStar, Bool.and_eq_true, Bool.not_eq_true'] at st
          simp only [sem]
          exact snd_of (pem_append (hr o x ex).E S.d (base_ok _ hcl) (few_ok st.1) hline (star_cons [] st.1) rfl) fun _ => rfl
        · cases h
      · cases h
    · split at h
      · rename_i nm em
        subst em
        split at h
        · rename_i e
          split at h
          · rename_i x es ex ees
            cases h
            have S := hrs _ _ ees
            have st := S.star
            simp only [noStar, Bool.and_eq_true, Bool.not_eq_true'] at st
            simp only [sem]
            exact snd_of (pem_extend (hr o x ex).E S.d (base_ok _ hcl) (few_ok st.1) hline (star_cons [] st.1) rfl) fun _ => rfl
          · cases h
        · cases h
      split at h
      · rename_i nm0 nm em
        subst em
        split at h
        · rename_i e f
          split at h
          · rename_i x es ex ees
            cases h
            have S := hrs _ _ ees
            have st := S.star
            simp only [noStar, Bool.and_eq_true, Bool.not_eq_true'] at st
            simp only [sem]
            exact snd_of (pem_insert (hr o x ex).E S.d (base_ok _ hcl) (few2_ok st.1 st.2.1) hline (star_cons [f] st.1) (by rw [star_cons [] st.2.1]; rfl)) fun _ => rfl
          · cases h
        · cases h
      split at h
      · rename_i nm2 nm1 nm em
        subst em
        split at h
        · cases ex : r C o with
          | none => rw [ex] at h; cases h
          | some x =>
            rw [ex] at h; cases h
            simp only [sem]
            exact snd_of (pem_pop0 (hr o x ex).E (base_ok _ hcl) hline) fun _ => rfl
        · rename_i e
          split at h
          · rename_i x es ex ees
            cases h
            have S := hrs _ _ ees
            have st := S.star
            simp only [noStar, Bool.and_eq_true, Bool.not_eq_true'] at st
            simp only [sem]
            exact snd_of (pem_pop (hr o x ex).E S.d (base_ok _ hcl) (few_ok st.1) hline (star_cons [] st.1) rfl) fun _ => rfl
          · cases h
        · cases h
      · cases h
  · cases h
/-! ### comprehensions -/
theorem ownOf_mem {N : List Str} : ∀ {names : List (Str × NameKind)} {p : Str × Nat}, p ∈ ownOf N names → True := fun _ => trivial
theorem blkB_ok {N : List Str} {sc scope : Scope} {own : List (Str × Nat)} (h : blkB N sc scope own = true) : BlkOk N sc scope own := by
  unfold blkB at h
  simp only [Bool.and_eq_true, List.all_eq_true, decide_eq_true_eq] at h
  obtain ⟨⟨⟨⟨h1, h2⟩, h3⟩, h4⟩, h5⟩ := h
  exact ⟨h1, h2, h3, h4, h5⟩
mutual
theorem tg_ok (hc : CtxOk C X Ex T) : ∀ {n : Nat} {e : Expr} {t : Tg}, tgC C n e = some t → PG X e (tG X.K t)
  | 0, _, _, h => by simp only [tgC] at h; cases h
  | n + 1, e, t, h => by
    cases e with
    | Name x p =>
      simp only [tgC] at h
      cases ei : stoOf C x with
      | none => rw [ei] at h; cases h
      | some i =>
        rw [ei] at h; cases h
        obtain ⟨h1, h2, h3⟩ := hc.sto ei
        exact pgm_name (by rw [hc.hN]; exact hc.nd) h1 h2 h3
    | Tuple es k p =>
      simp only [tgC] at h
      cases ei : tgsC C n es with
      | none => rw [ei] at h; cases h
      | some ts =>
        rw [ei] at h; cases h
        obtain ⟨h1, h2, h3⟩ := tgs_ok hc ei
        exact pgm_tup hc.calm h1 h2 h3
    | _ => simp only [tgC] at h; cases h
theorem tgs_ok (hc : CtxOk C X Ex T) : ∀ {n : Nat} {es : List Expr} {ts : List Tg}, tgsC C n es = some ts → PGs X es (tGs X.K ts) ∧ (assignEach es X.env).length = ts.length ∧ (assignEach es X.env).findIdx? (·.1) = none
  | 0, _, _, h => by simp only [tgsC] at h; cases h
  | n + 1, [], ts, h => by simp only [tgsC] at h; cases h; exact ⟨pgsm_nil, rfl, rfl⟩
  | n + 1, e :: es, ts, h => by
    simp only [tgsC] at h
    split at h
    · cases h
    · rename_i st
      have st : isStar e = false := by simpa using st
      split at h
      · rename_i t ts' et ets
        cases h
        have h0 := tg_ok hc et
        obtain ⟨h1, h2, h3⟩ := tgs_ok hc ets
        have ea : assignEach (e :: es) X.env = (false, assign e X.env) :: assignEach es X.env := by
          cases e <;> first | rfl | cases st
        refine ⟨pgsm_cons h0 h1 (by rw [ea]; rfl), by rw [ea, List.length_cons, List.length_cons, h2], ?_⟩
        rw [ea, List.findIdx?_cons, h3]
        rfl
      · cases h
end
theorem snd_comp {r : RE} {rs : RS} {pos : Pos} (hc : CtxOk C X Ex T) (hr : ∀ C X Ex, CtxOk C X Ex T → ∀ e ie, r C e = some ie → Snd X Ex e (sem T ie)) (hrs : ∀ C X Ex, CtxOk C X Ex T → ∀ es ies, rs C es = some ies → Sns X Ex es (sems T ies))
    {elt tg iter : Expr} {ifs : List Expr} {scope : Scope} {ie : IE} (h : cComp C r rs elt tg iter ifs scope = some ie) :
    ∃ (own : List (Str × Nat)) (t : Tg) (src elt' : IE) (ifs' : IEs), ie = .lc (own.map (·.2)) elt' t src ifs' ∧ BlkOk X.N X.env.scope scope own ∧ (∀ i ∈ t.slots, i ∈ own.map (·.2)) ∧ PIm X Ex tg iter (sem T src).I ∧ (∀ x, foldedSetIterable iter X.env x = pure x) ∧
      (∀ (s : Shared) (H : Hp) (A : Addr) (cl : List (Str × Addr)) (fp : List Addr), PG (X.blk s H scope (compEnvC scope cl A X.env) fp) tg (tG X.K t) ∧ PTs (X.blk s H scope (compEnvC scope cl A X.env) fp) ifs (tT X.K Ex0 (mIfs (sems T ifs'))) ∧ PE (X.blk s H scope (compEnvC scope cl A X.env) fp) elt (tE X.K Ex0 (sem T elt').E)) := by
  unfold cComp at h
  split at h
  · rename_i hh
    obtain ⟨hb, hset, hl, hw⟩ := hh
    split at h
    · rename_i t src elt' ifs' et es ee ei
      split at h
      · rename_i hsl
        cases h
        refine ⟨ownOf C.N scope.names, t, src, elt', ifs', rfl, by rw [hc.hN, hc.sc]; exact blkB_ok hb, fun i hi => ?_, (hr C X Ex hc iter src es).I tg hw, fun x => ?_, fun s H A cl fp => ?_⟩
        · rw [List.all_eq_true] at hsl
          exact of_decide_eq_true (hsl i hi)
        · cases iter <;> first | rfl | cases hset
        · have hk := hc.blk s H scope cl A fp
          exact ⟨tg_ok hk et, (hrs _ _ _ hk ifs ifs' ei).t hl, (hr _ _ _ hk elt elt' ee).E⟩
      · cases h
    · cases h
  · cases h
theorem snd_comp2 {r : RE} {rs : RS} {pos : Pos} (hc : CtxOk C X Ex T) (hr : ∀ C X Ex, CtxOk C X Ex T → ∀ e ie, r C e = some ie → Snd X Ex e (sem T ie)) (hrs : ∀ C X Ex, CtxOk C X Ex T → ∀ es ies, rs C es = some ies → Sns X Ex es (sems T ies))
    {elt tg iter tg1 iter1 : Expr} {ifs ifs1 : List Expr} {scope : Scope} {ie : IE} (h : cComp2 C r rs elt tg iter ifs tg1 iter1 ifs1 scope = some ie) :
    ∃ (own : List (Str × Nat)) (t t1 : Tg) (src src1 elt' : IE) (ifs' ifs1' : IEs), ie = .lc2 (own.map (·.2)) t1.slots elt' t src ifs' t1 src1 ifs1' ∧ BlkOk X.N X.env.scope scope own ∧ (∀ i ∈ t.slots, i ∈ own.map (·.2)) ∧ (∀ i ∈ t1.slots, i ∈ own.map (·.2)) ∧ PIm X Ex tg iter (sem T src).I ∧ (∀ x, foldedSetIterable iter X.env x = pure x) ∧ (∀ env x, foldedSetIterable iter1 env x = pure x) ∧
      (∀ (s : Shared) (H : Hp) (A : Addr) (cl : List (Str × Addr)) (fp : List Addr), (PG (X.blk s H scope (compEnvC scope cl A X.env) fp) tg (tG X.K t) ∧ PTs (X.blk s H scope (compEnvC scope cl A X.env) fp) ifs (tT X.K Ex0 (mIfs (sems T ifs')))) ∧
        (PIm (X.blk s H scope (compEnvC scope cl A X.env) fp) Ex0 tg1 iter1 (sem T src1).I ∧ PG (X.blk s H scope (compEnvC scope cl A X.env) fp) tg1 (tG X.K t1) ∧ PTs (X.blk s H scope (compEnvC scope cl A X.env) fp) ifs1 (tT X.K Ex0 (mIfs (sems T ifs1')))) ∧ PE (X.blk s H scope (compEnvC scope cl A X.env) fp) elt (tE X.K Ex0 (sem T elt').E)) := by
  unfold cComp2 at h
  split at h
  · rename_i hh
    obtain ⟨⟨hb, hset, hl, hw⟩, hset1, hl1, hw1⟩ := hh
    split at h
    · rename_i t src ifs' t1 src1 ifs1' elt' et es ei et1 es1 ei1 ee
      split at h
      · rename_i hsl
        cases h
        rw [Bool.and_eq_true, List.all_eq_true, List.all_eq_true] at hsl
        refine ⟨ownOf C.N scope.names, t, t1, src, src1, elt', ifs', ifs1', rfl, by rw [hc.hN, hc.sc]; exact blkB_ok hb, fun i hi => of_decide_eq_true (hsl.1 i hi), fun i hi => of_decide_eq_true (hsl.2 i hi), (hr C X Ex hc iter src es).I tg hw, fun x => ?_, fun env x => ?_, fun s H A cl fp => ?_⟩
        · cases iter <;> first | rfl | cases hset
        · cases iter1 <;> first | rfl | cases hset1
        · have hk := hc.blk s H scope cl A fp
          exact ⟨⟨tg_ok hk et, (hrs _ _ _ hk ifs ifs' ei).t hl⟩, ⟨(hr _ _ _ hk iter1 src1 es1).I tg1 hw1, tg_ok hk et1, (hrs _ _ _ hk ifs1 ifs1' ei1).t hl1⟩, (hr _ _ _ hk elt elt' ee).E⟩
      · cases h
    · cases h
  · cases h
/-! ### all expressions -/
theorem stepE_ok {r : RE} {rs : RS} (hc : CtxOk C X Ex T) (hr : ∀ C X Ex, CtxOk C X Ex T → ∀ e ie, r C e = some ie → Snd X Ex e (sem T ie)) (hrs : ∀ C X Ex, CtxOk C X Ex T → ∀ es ies, rs C es = some ies → Sns X Ex es (sems T ies)) {e : Expr} {ie : IE} (h : stepE r rs C e = some ie) : Snd X Ex e (sem T ie) := by
  have hr' := hr C X Ex hc
  have hrs' := hrs C X Ex hc
  unfold stepE at h
  split at h
  · exact snd_name hc h
  · exact snd_const h
  · rename_i es _ _
    split at h
    · rename_i hl
      cases ex : rs C es with
      | none => rw [ex] at h; cases h
      | some ies =>
        rw [ex] at h; cases h
        have S := hrs' _ _ ex
        simp only [sem]
        exact snd_of (pem_tup S.d (by rw [S.len]; exact hl) fun s ds s' q => mDs_length q) fun _ => rfl
    · cases h
  · rename_i es _
    split at h
    · rename_i hl
      cases ex : rs C es with
      | none => rw [ex] at h; cases h
      | some ies =>
        rw [ex] at h; cases h
        have S := hrs' _ _ ex
        simp only [sem]
        exact snd_of (pem_lst S.d (by rw [S.len]; exact hl) fun s ds s' q => mDs_length q) fun _ => rfl
    · cases h
  · split at h
    · rename_i o x y eo ex ey
      cases h
      simp only [sem]
      exact snd_of (pem_bin (op2Of_ok eo) (hr' _ _ ex).E (hr' _ _ ey).E) fun _ => rfl
    · cases h
  · rename_i a _
    cases ex : r C a with
    | none => rw [ex] at h; cases h
    | some x =>
      rw [ex] at h; cases h
      simp only [sem]
      exact snd_of (pem_neg (hr' _ _ ex).E) fun _ => rfl
  · rename_i a _
    cases ex : r C a with
    | none => rw [ex] at h; cases h
    | some x =>
      rw [ex] at h; cases h
      simp only [sem]
      exact ⟨pem_not (hr' _ _ ex).E, ptm_not (hr' _ _ ex).T, fun _ _ => pim_stuck⟩
  · exact snd_cmp hc hr' h
  · obtain ⟨h1, h2, h3⟩ := snd_bool (pos := by assumption) hr' h
    have h3 := h3 (by simp)
    exact ⟨h1, h2.pt, fun tg _ => by rw [h3]; exact pim_stuck⟩
  · split at h
    · rename_i x y z ex ey ez
      cases h
      simp only [sem]
      have E := pem_ife (pos := by assumption) (hr' _ _ ex).T (hr' _ _ ey).E (hr' _ _ ez).E
      exact ⟨E, ptm_ife (hr' _ _ ex).T (hr' _ _ ey).T (hr' _ _ ez).T, fun _ _ => pim_of E⟩
    · cases h
  · exact snd_sub hr' h
  · exact snd_callN hc hr' hrs' h
  · exact snd_meth hr' hrs' h
  · obtain ⟨own, t, src, elt', ifs', rfl, ok, hsl, hi, hs, hb⟩ := snd_comp (pos := by assumption) hc hr hrs h
    simp only [sem]
    exact snd_of (pem_lc (Ex' := Ex0) hc.calm (by rw [hc.hN]; exact hc.nd) hi ok hsl (fun s H A cl fp => (hb s H A cl fp).1) (fun s H A cl fp => (hb s H A cl fp).2.1) (fun s H A cl fp => (hb s H A cl fp).2.2) hs) fun _ => rfl
  · obtain ⟨own, t, t1, src, src1, elt', ifs', ifs1', rfl, ok, hsl, hsl1, hi, hs, hs1, hb⟩ := snd_comp2 (pos := by assumption) hc hr hrs h
    simp only [sem]
    exact snd_of (pem_lc2 (Ex' := Ex0) hc.calm (by rw [hc.hN]; exact hc.nd) hi ok hsl (fun _ z => z) hsl1 (fun s H A cl fp => (hb s H A cl fp).1.1) (fun s H A cl fp => (hb s H A cl fp).1.2) (fun s H A cl fp => (hb s H A cl fp).2.1.1) (fun s H A cl fp => (hb s H A cl fp).2.1.2.1) (fun s H A cl fp => (hb s H A cl fp).2.1.2.2) (fun s H A cl fp => (hb s H A cl fp).2.2) hs hs1) fun _ => rfl
  · cases h
theorem comp_ok (T : Tb) : ∀ n : Nat, (∀ C X Ex, CtxOk C X Ex T → ∀ e ie, compE n C e = some ie → Snd X Ex e (sem T ie)) ∧ (∀ C X Ex, CtxOk C X Ex T → ∀ es ies, compEs n C es = some ies → Sns X Ex es (sems T ies))
  | 0 => ⟨(fun _ _ _ _ _ _ h => by rw [compE] at h; cases h), (fun _ _ _ _ _ _ h => by rw [compEs] at h; cases h)⟩
  | n + 1 => by
    obtain ⟨h1, h2⟩ := comp_ok T n
    refine ⟨fun C X Ex hc e ie h => ?_, fun C X Ex hc es ies h => ?_⟩
    · rw [compE] at h
      exact stepE_ok hc h1 h2 h
    · rw [compEs] at h
      cases es with
      | nil => cases h; simp only [sems]; exact sns_nil
      | cons e es =>
        simp only [stepEs] at h
        split at h
        · cases h
        · rename_i st
          split at h
          · rename_i x xs ex exs
            cases h
            simp only [sems]
            exact sns_cons (h1 C X Ex hc e x ex) (h2 C X Ex hc es xs exs) (by simpa using st)
          · cases h
end
end Y

/-! Y19: .. statements. -/
set_option linter.all false
set_option maxRecDepth 100000
set_option Elab.async false
set_option autoImplicit false
set_option maxHeartbeats 1000000
namespace Y
open PySem PySem.Spec L2 PyProof.Rows
section
variable {C : Cc} {X : Cx} {Ex : ExP} {T : Tb}
theorem swaps_no {e : Expr} (h : isComp e = false) (t : Option Expr) (l : Nat) (env : Env) : swapsWith e t l env = pure false := by
  cases e <;> first | rfl | cases h
theorem swaps_sole {tg e : Expr} (h : isComp e = false) (l : Nat) (env : Env) : swapsWithSole [tg] e l env = pure false := swaps_no h (some tg) l env
theorem swaps_lc {elt : Expr} {gens : List Comprehension} {s : Scope} {p tp : Pos} {x : Str} {l : Nat} {env : Env} : swapsWith (.ListComp elt gens s p) (some (.Name x tp)) l env =
    pure (env.blockKind == .function && env.kindOf x == some .local && tp.line == p.line && !(s.names.any fun (n, k) => n == x && (k == .local || k == .cell))) := rfl
theorem kind_fn (hc : CtxOk C X Ex T) (hk : C.sc.kind = .function) : X.env.blockKind = .function := by
  show (if X.env.scope.kind.isAnnotationScope then ScopeKind.function else X.env.scope.kind) = _
  rw [hc.sc, hk]
  rfl
theorem swapB_ok (hc : CtxOk C X Ex T) (hk : C.sc.kind = .function) {elt : Expr} {gens : List Comprehension} {s : Scope} {p tp : Pos} {x : Str} {l : Nat} : swapsWith (.ListComp elt gens s p) (some (.Name x tp)) l X.env = pure (swapB C (.ListComp elt gens s p) x tp) := by
  rw [swaps_lc, kind_fn hc hk]
  have e : (X.env.kindOf x == some NameKind.local) = decide (kindC C x = some .local) := by
    show (X.env.scope.names.lookup x == some NameKind.local) = decide (C.sc.names.lookup x = some .local)
    rw [hc.sc]
    by_cases h : C.sc.names.lookup x = some .local
    · rw [h]; rfl
    · rw [decide_eq_false h]
      exact beq_false_of_ne h
  rw [e]
  rfl
theorem par_swapped (hc : CtxOk C X Ex T) (hk : C.sc.kind = .function) {x y : Str} {px py pt pt2 : Pos} {a b : Expr} {kt k2 : Nat} (h : parB C x y px py a b = true) :
    swappedStores [.Tuple [.Name x px, .Name y py] kt pt] (.Tuple [a, b] k2 pt2) X.env = pure (some [x, y]) := by
  unfold parB at h
  simp only [Bool.and_eq_true, Bool.not_eq_true', decide_eq_true_eq] at h
  obtain ⟨⟨⟨⟨⟨⟨⟨⟨hx, hy⟩, _⟩, hl⟩, hne⟩, ha⟩, hb⟩, hf⟩, hcn⟩ := h
  have kx : X.env.kindOf x = some .local := by show X.env.scope.names.lookup x = _; rw [hc.sc]; exact hx
  have ky : X.env.kindOf y = some .local := by show X.env.scope.names.lookup y = _; rw [hc.sc]; exact hy
  have hst : (List.any [a, b] fun | .Starred .. => true | _ => false) = false := by
    cases a <;> first | cases ha; done | (cases b <;> first | rfl | cases hb)
  have hne' : (y == x) = false := by
    rw [beq_eq_false_iff_ne] at hne ⊢
    exact fun e => hne e.symm
  unfold swappedStores
  have hfm : ([Expr.Name x px, Expr.Name y py].filterMap fun
    | .Name id pos => if X.env.kindOf id == some .local && pos.line == px.line then some id else none
    | _ => none) = [x, y] := by
    have hl' : py.line = px.line := by simpa using hl
    simp [List.filterMap, kx, ky, hl']
  have hd : [x, y].eraseDups = [x, y] := by
    simp [List.eraseDups, List.eraseDupsBy, List.eraseDupsBy.loop, hne, hne']
  refine (if_neg ?_).trans ((if_neg ?_).trans ((if_neg ?_).trans ((if_neg ?_).trans ((if_neg ?_).trans ?_))))
  · rw [kind_fn hc hk]; intro z; cases z
  · intro z; exact Bool.noConfusion (hst.symm.trans z)
  · intro z
    have z : (([Expr.Name x px, Expr.Name y py].filterMap fun
      | .Name id pos => if X.env.kindOf id == some .local && pos.line == px.line then some id else none
      | _ => none).length != 2 || ([Expr.Name x px, Expr.Name y py].filterMap fun
      | .Name id pos => if X.env.kindOf id == some .local && pos.line == px.line then some id else none
      | _ => none).eraseDups.length != ([Expr.Name x px, Expr.Name y py].filterMap fun
      | .Name id pos => if X.env.kindOf id == some .local && pos.line == px.line then some id else none
      | _ => none).length) = true := z
    rw [hfm, hd] at z
    cases z
  · intro z
    have z : (foldedForSure 8 a && (foldedForSure 8 b && true)) = true := z
    rw [Bool.and_true, hf] at z
    cases z
  · intro z
    have z : (constantsAlone 8 a && (constantsAlone 8 b && true)) = true := z
    rw [Bool.and_true, hcn] at z
    cases z
  · exact congrArg (fun l => pure (some l)) hfm
theorem fold_swapped {ts : List Expr} {vs : List Expr} {k k2 : Nat} {p p2 : Pos} {env : Env} (h : vs.all (foldedForSure 8) = true) : swappedStores [.Tuple ts k p] (.Tuple vs k2 p2) env = pure none := by
  unfold swappedStores
  simp only [h]
  repeat' split
  all_goals first | rfl | contradiction
theorem nl_swapped (hc : CtxOk C X Ex T) {ts : List Expr} {vs : List Expr} {k k2 : Nat} {p p2 : Pos} (h : anyNL C ts = true) : swappedStores [.Tuple ts k p] (.Tuple vs k2 p2) X.env = pure none := by
  have key : ∀ (f : Expr → Option Str), (∀ x q, kindC C x ≠ some .local → f (.Name x q) = none) → (∀ e, (∀ x q, e ≠ .Name x q) → f e = none) → (ts.filterMap f).length ≠ ts.length := fun f h1 h2 => by
    obtain ⟨t, ht, e⟩ := List.any_eq_true.mp h
    refine Nat.ne_of_lt (List.length_filterMap_lt_length_iff_exists.mpr ⟨t, ht, ?_⟩)
    cases t with
    | Name x q => exact h1 x q (by simpa using e)
    | _ => exact h2 _ (by intro x q z; cases z)
  unfold swappedStores
  simp only []
  split
  · rfl
  · split
    · rfl
    · rw [if_pos]
      rw [Bool.or_eq_true]
      left
      rw [bne_iff_ne]
      refine key _ (fun x q hx => ?_) fun e he => ?_
      · have : (X.env.kindOf x == some NameKind.local) = false := by
          rw [beq_eq_false_iff_ne]
          show X.env.scope.names.lookup x ≠ some .local
          rw [hc.sc]; exact hx
        simp only [this, Bool.false_and]
        rfl
      · cases e <;> first | rfl | exact (he _ _ rfl).elim
theorem notup_swapped {ts : List Expr} {e : Expr} {k : Nat} {p : Pos} {env : Env} (h : isTup e = false) : swappedStores [.Tuple ts k p] e env = pure none := by
  cases e <;> first | rfl | cases h
theorem subscr_assign {o i : Expr} {p : Pos} {env : Env} (h : isSlice i = false) (v : Value) : assign (.Subscript o i p) env v = (do
      let ov ← holding [v] (eval o env)
      let iv ← holding [v, ov] (eval i env)
      standAt p
      holding [v, ov, iv] (setItem ov iv v)
      release [v, ov, iv] []) := by
  cases i <;> first | rfl | cases h
/-- a comprehension that compiles -/
theorem lc_inv {k : Nat} {elt : Expr} {gens : List Comprehension} {scope : Scope} {pos : Pos} {ie : IE} (h : compE k C (.ListComp elt gens scope pos) = some ie) : (∃ k' tg iter ifs, gens = [⟨tg, iter, ifs, 0⟩] ∧ cComp C (compE k') (compEs k') elt tg iter ifs scope = some ie) ∨
    ∃ k' tg iter ifs tg1 iter1 ifs1, gens = [⟨tg, iter, ifs, 0⟩, ⟨tg1, iter1, ifs1, 0⟩] ∧ cComp2 C (compE k') (compEs k') elt tg iter ifs tg1 iter1 ifs1 scope = some ie := by
  cases k with
  | zero => rw [compE] at h; cases h
  | succ k =>
    rw [compE] at h
    unfold stepE at h
    split at h
    all_goals first
      | (rename_i e; cases e; done)
      | skip
    · rename_i e
      cases e
      exact .inl ⟨k, _, _, _, rfl, h⟩
    · rename_i e
      cases e
      exact .inr ⟨k, _, _, _, _, _, _, rfl, h⟩
    · cases h
theorem tgC_tup {n : Nat} {ts : List Expr} {k : Nat} {p : Pos} {t : Tg} (hc : CtxOk C X Ex T) (h : tgC C n (.Tuple ts k p) = some t) : PG X (.Tuple ts k p) (tG X.K t) := tg_ok hc h
theorem snd_asg {k : Nat} {pos : Pos} (hc : CtxOk C X Ex T) (hk : C.sc.kind = .function) {tg e : Expr} {is : IS} (h : cAsg C (compE k) tg e = some is) : PSm X Ex (.Assign [tg] e pos) (semS T is) := by
  have hr := fun e ie (q : compE k C e = some ie) => (comp_ok T k).1 C X Ex hc e ie q
  have nd : X.N.Nodup := by rw [hc.hN]; exact hc.nd
  unfold cAsg at h
  split at h
  · rename_i x p
    split at h
    · rename_i i ei
      obtain ⟨h1, h2, h3⟩ := hc.sto ei
      have h' : ∃ x1, compE k C e = some x1 ∧ is = .set i x1 := by
        cases ex : compE k C e with
        | none =>
          rw [ex] at h
          split at h
          · split at h <;> cases h
          · cases h
        | some x1 =>
          rw [ex] at h
          split at h
          · split at h
            · cases h; exact ⟨x1, rfl, rfl⟩
            · cases h
          · cases h; exact ⟨x1, rfl, rfl⟩
      obtain ⟨x1, ex, rfl⟩ := h'
      simp only [semS]
      by_cases hcm : isComp e = true
      · cases e with
        | ListComp elt gens scope p2 =>
          cases hsw : swapB C (.ListComp elt gens scope p2) x p with
          | false => exact psm_set nd h1 h2 (hr _ _ ex).E (by rw [swapB_ok hc hk, hsw]) h3
          | true =>
            have hy : X.env.scope.names.lookup x = some .local := by
              unfold swapB at hsw
              simp only [Bool.and_eq_true, decide_eq_true_eq] at hsw
              rw [hc.sc]; exact hsw.1.1
            rcases lc_inv ex with ⟨k', tg, iter, ifs, rfl, q⟩ | ⟨k', tg, iter, ifs, tg1, iter1, ifs1, rfl, q⟩
            · obtain ⟨own, t, src, elt', ifs', rfl, ok, hsl, hi, hs, hb⟩ := snd_comp (pos := p2) hc (comp_ok T k').1 (comp_ok T k').2 q
              simp only [sem]
              exact psm_setLc (Ex' := Ex0) hc.calm nd h1 hy (by rw [swapB_ok hc hk, hsw]) hi ok hsl (fun s H A cl fp => (hb s H A cl fp).1) (fun s H A cl fp => (hb s H A cl fp).2.1) (fun s H A cl fp => (hb s H A cl fp).2.2) hs
            · obtain ⟨own, t, t1, src, src1, elt', ifs', ifs1', rfl, ok, hsl, hsl1, hi, hs, hs1, hb⟩ := snd_comp2 (pos := p2) hc (comp_ok T k').1 (comp_ok T k').2 q
              simp only [sem]
              exact psm_setLc2 (Ex' := Ex0) hc.calm nd h1 hy (by rw [swapB_ok hc hk, hsw]) hi ok hsl (fun _ z => z) hsl1 (fun s H A cl fp => (hb s H A cl fp).1.1) (fun s H A cl fp => (hb s H A cl fp).1.2) (fun s H A cl fp => (hb s H A cl fp).2.1.1) (fun s H A cl fp => (hb s H A cl fp).2.1.2.1) (fun s H A cl fp => (hb s H A cl fp).2.1.2.2) (fun s H A cl fp => (hb s H A cl fp).2.2) hs hs1
        | SetComp elt gens scope p2 =>
          exfalso
          cases k with
          | zero => rw [compE] at ex; cases ex
          | succ k => rw [compE] at ex; unfold stepE at ex; cases ex
        | DictComp a b gens scope p2 =>
          exfalso
          cases k with
          | zero => rw [compE] at ex; cases ex
          | succ k => rw [compE] at ex; unfold stepE at ex; cases ex
        | _ => cases hcm
      · exact psm_set nd h1 h2 (hr _ _ ex).E (swaps_no (by simpa using hcm) _ _ _) h3
    · cases h
  · rename_i o i p
    split at h
    · cases h
    · rename_i hh
      rw [not_or] at hh
      split at h
      · rename_i v o' i' ev eo ei
        cases h
        simp only [semS]
        exact psm_put (hr _ _ ev).E (hr _ _ eo).E (hr _ _ ei).E (swaps_sole (by simpa using hh.1) _ _) rfl rfl (subscr_assign (by simpa using hh.2))
      · cases h
  · rename_i ts k2 p
    split at h
    · cases h
    · rename_i hcm
      have hcm : isComp e = false := by simpa using hcm
      split at h
      · rename_i t e' et ee
        have gen : swappedStores [.Tuple ts k2 p] e X.env = pure none → PSm X Ex (.Assign [.Tuple ts k2 p] e pos) (semS T (.asg t e')) := fun hw => by
          simp only [semS]
          exact psm_asg (hr _ _ ee).E (tg_ok hc et) (swaps_sole hcm _ _) hw rfl
        split at h
        · rename_i x px y py a b k3 p3 _
          split at h
          · rename_i hp
            split at h
            · rename_i i j a' b' ei ej ea eb
              cases h
              simp only [semS]
              obtain ⟨i1, i2, i3⟩ := hc.sto ei
              obtain ⟨j1, j2, j3⟩ := hc.sto ej
              have hp2 := hp
              unfold parB at hp2
              simp only [Bool.and_eq_true, Bool.not_eq_true', decide_eq_true_eq] at hp2
              obtain ⟨⟨⟨⟨⟨⟨⟨⟨hx, hy⟩, _⟩, hl⟩, hne⟩, ha⟩, hb⟩, hf⟩, hcn⟩ := hp2
              have nij : i ≠ j := fun e => by
                subst e
                rw [i1] at j1
                cases j1
                simp at hne
              exact psm_par hc.calm nd i1 j1 nij (by rw [hc.sc]; exact hx) (by rw [hc.sc]; exact hy) (hr _ _ ea).E (hr _ _ eb).E (star_cons _ ha) (star_cons _ hb) (par_swapped hc hk hp) (swaps_sole rfl _ _)
            · cases h
          · split at h
            · cases h
            · rename_i hh
              cases h
              have hh : (!(foldedForSure 8 a && foldedForSure 8 b) && !anyNL C [.Name x px, .Name y py]) = false := by simpa using hh
              rw [Bool.and_eq_false_iff, Bool.not_eq_false', Bool.not_eq_false'] at hh
              rcases hh with this | this
              · refine gen (fold_swapped ?_)
                show (foldedForSure 8 a && (foldedForSure 8 b && true)) = true
                rw [Bool.and_true]; exact this
              · exact gen (nl_swapped hc this)
        · split at h
          · rename_i hf
            cases h
            rw [Bool.or_eq_true] at hf
            rcases hf with hf | hf
            · exact gen (fold_swapped hf)
            · exact gen (nl_swapped hc hf)
          · cases h
        · cases h
        · rename_i n1 n2 n3
          cases h
          refine gen (notup_swapped ?_)
          cases e <;> first | rfl | exact (n1 _ _ _ rfl).elim | exact (n2 _ _ _ rfl).elim | exact (n3 _ _ _ rfl).elim | exact (n1 _ _ rfl).elim | exact (n2 _ _ rfl).elim | exact (n3 _ _ rfl).elim
      · cases h
  · cases h
theorem stepS_ok {k : Nat} {rb : RB} (hc : CtxOk C X Ex T) (hp : PassesOwn (model X.prog X.w) X.A X.env X.xe) (hk : C.sc.kind = .function) (hb : ∀ ss iss, rb C ss = some iss → PSsm X Ex ss (semSs T iss)) {st : Stmt} {is : IS} (h : stepS (compE k) rb C st = some is) : PSm X Ex st (semS T is) := by
  have hr := fun e ie (q : compE k C e = some ie) => (comp_ok T k).1 C X Ex hc e ie q
  have nd : X.N.Nodup := by rw [hc.hN]; exact hc.nd
  unfold stepS at h
  split at h
  · cases h; simp only [semS]; exact psm_doc
  · rename_i e pos _
    split at h
    · cases h
    · rename_i hcm
      cases ex : compE k C e with
      | none => rw [ex] at h; cases h
      | some x => rw [ex] at h; cases h; simp only [semS]; exact psm_expr (hr _ _ ex).E (swaps_no (by simpa using hcm) _ _ _)
  · rename_i e pos
    cases ex : compE k C e with
    | none => rw [ex] at h; cases h
    | some x => rw [ex] at h; cases h; simp only [semS]; exact psm_ret (hr _ _ ex).E
  · cases h; simp only [semS]; exact psm_retN
  · exact snd_asg hc hk h
  · rename_i x p e pos
    split at h
    · rename_i i e' ei ee
      cases h
      simp only [semS]
      obtain ⟨i1, i2, i3⟩ := hc.sto ei
      exact psm_aug nd i1 i2 (hr _ _ ee).E i3
    · cases h
  · split at h
    · rename_i c' a' b' ec ea eb
      cases h
      simp only [semS]
      exact psm_if (hr _ _ ec).T (hb _ _ ea) (hb _ _ eb)
    · cases h
  · split at h
    · rename_i c' b' ec eb
      cases h
      simp only [semS]
      exact psm_while hp (hr _ _ ec).T (hb _ _ eb)
    · cases h
  · rename_i tg iter b pos
    split at h
    · cases h
    · rename_i hset
      split at h
      · rename_i t src b' et es eb
        cases h
        simp only [semS]
        rw [not_or] at hset
        exact psm_for hp hc.calm ((hr _ _ es).I tg (by cases hq : (isTupT tg || plainW iter) with | true => rfl | false => exact (hset.2 hq).elim)) (tg_ok hc et) (hb _ _ eb) fun x => by
          cases iter <;> first | rfl | exact (hset.1 rfl).elim
      · cases h
  · cases h; simp only [semS]; exact psm_break
  · cases h; simp only [semS]; exact psm_cont
  · cases h; simp only [semS]; exact psm_pass
  · cases h
theorem compSs_ok {k : Nat} (hc : CtxOk C X Ex T) (hp : PassesOwn (model X.prog X.w) X.A X.env X.xe) (hk : C.sc.kind = .function) : ∀ n ss iss, compSs k n C ss = some iss → PSsm X Ex ss (semSs T iss)
  | 0, ss, iss, h => by rw [compSs] at h; cases h
  | n + 1, [], iss, h => by rw [compSs] at h; cases h; simp only [semSs]; exact pssm_nil
  | n + 1, s :: ss, iss, h => by
    rw [compSs] at h
    simp only at h
    split at h
    · rename_i x xs ex exs
      cases h
      simp only [semSs]
      exact pssm_cons (stepS_ok hc hp hk (compSs_ok hc hp hk n) ex) (compSs_ok hc hp hk n _ _ exs)
    · cases h
end
end Y

/-! Y20: the table of all functions; the law's call. -/
set_option linter.all false
set_option maxRecDepth 100000
set_option Elab.async false
set_option autoImplicit false
set_option maxHeartbeats 1000000
namespace Y
open PySem PySem.Spec L2 PyProof.Rows
def T0 : Tb := ⟨fun _ _ _ => .stuck, fun _ => .val .non⟩
def Tb.with (T : Tb) (i : Nat) (m : FnD) : Tb := ⟨fun j => if j = i then m else T.fn j, T.cn⟩
theorem findF_mem : ∀ {fs : List FnI} {x : Str} {f : FnI}, findF fs x = some f → f ∈ fs
  | [], x, f, h => by cases h
  | g :: fs, x, f, h => by
    unfold findF at h
    split at h
    · cases h; exact List.mem_cons_self ..
    · exact List.mem_cons_of_mem _ (findF_mem h)
structure FnsOk (P : Program) (w : World) (K : Frag) (mg : Str → Option Value) (base : Heap) (k : Nat) (f : FnI) (kwb : List KwI) (fn : FnD) : Prop where
  ex : ∃ (fa : Addr) (fd : FuncData), FnOk P w K mg base CX0 k fa fd f.ps (spD K XR0 f.ps.length fn) ∧ mg f.name = some (.ref fa) ∧ PySem.W.keepIn K (.ref fa) = true ∧ Binds K fd f.ps [] ∧ ∀ q ∈ kwb, q.name = f.name → KBn K fd f.ps q.n q.ks (permU q.perm) (permV q.perm)
def TabOk (P : Program) (w : World) (K : Frag) (mg : Str → Option Value) (base : Heap) (kwb : List KwI) (fns : List FnI) (k : Nat) (T : Tb) : Prop := ∀ f ∈ fns, FnsOk P w K mg base k f kwb (T.fn f.id)
section
variable {P : Program} {w : World} {K : Frag} {mg : Str → Option Value} {base : Heap} {fns : List FnI} {kwb : List KwI} {k : Nat} {T : Tb}
theorem tab0 : TabOk P w K mg base kwb [] 0 T := fun f h => by cases h
theorem ctx_of (h : TabOk P w K mg base kwb fns k T) {N : List Str} {qual : Str} {scope : Scope} {f : Addr} {cdv : Value} {A : Around} {outer : List Env} {s : Shared} {H : Hp} {E : XK} {blts : List Str} (nd : N.Nodup) (hbl : ∀ x ∈ blts, mg x = none) (hr : Room k (A.deeper (envOfC qual scope s.heap.objs.size f cdv))) :
    CtxOk ⟨N, scope, fns, kwb, [], blts, true⟩ (cxOf CX0 P w K mg base N qual scope f cdv A outer s H E) (ExR XR0 E) T := by
  refine ⟨rfl, nd, rfl, rfl, ?_, fun _ _ => rfl, hbl, fun x f ef => ?_, fun x i e => by cases e⟩
  · have := hr.un
    show (A.deeper (envOfC qual scope s.heap.objs.size f cdv)).units + 65 < cLine
    omega
  · obtain ⟨fa, fd, F, hm, hk, hb, hq⟩ := (h f (findF_mem ef)).ex
    exact ⟨CX0, k, fa, fd, XR0, E, F, hr, hm, hk, hb, fun _ _ _ _ _ _ _ h => h.elim, fun _ _ _ _ _ _ _ _ z => z.elim, fun _ _ _ _ _ _ _ _ h => h.elim, hq⟩
/-- one def more -/
theorem TabOk.fn (h : TabOk P w K mg base kwb fns k T) {nm : Str} {st : Stmt} {f : Addr} {fd : FuncData} {N ps : List Str} {ir : ISs} {blts : List Str} {a b : Nat} (F : FunD K nm nm (defArgs st) (defBody st) (defScope st) [] [] f fd) (S : FnScope N ps (defScope st)) (hbl : ∀ x ∈ blts, mg x = none)
    (c : compSs a b ⟨N, defScope st, fns, kwb, [], blts, true⟩ (defBody st) = some ir) : FnOk P w K mg base CX0 (k + 1) f fd ps (spD K XR0 ps.length (mkF N.length (semSs T ir))) :=
  fn_spD F S fun cdv A outer s H E hr => compSs_ok (ctx_of h S.nd hbl hr) PassesOwn.leaving S.kind b _ _ c
theorem TabOk.succ (h : TabOk P w K mg base kwb fns k T) {nm : Str} {f : Addr} {fd : FuncData} {ps : List Str} {m : FnD} {id : Nat} (F : FnOk P w K mg base CX0 (k + 1) f fd ps (spD K XR0 ps.length m)) (hm : mg nm = some (.ref f)) (hk : PySem.W.keepIn K (.ref f) = true)
    (hb : Binds K fd ps []) (u : (fns.all fun f => f.id != id) = true) (hq : ∀ q ∈ kwb, q.name = nm → KBn K fd ps q.n q.ks (permU q.perm) (permV q.perm)) : TabOk P w K mg base kwb (⟨nm, id, ps⟩ :: fns) (k + 1) (T.with id m) := by
  intro g hg
  rcases List.mem_cons.mp hg with rfl | hg
  · have et : (T.with id m).fn id = m := if_pos rfl
    show FnsOk _ _ _ _ _ _ _ _ ((T.with id m).fn id)
    rw [et]
    exact ⟨f, fd, F, hm, hk, hb, hq⟩
  · have ne : g.id ≠ id := by
      rw [List.all_eq_true] at u
      simpa using u g hg
    have et : (T.with id m).fn g.id = T.fn g.id := if_neg ne
    rw [et]
    obtain ⟨fa, fd', F', r⟩ := (h g hg).ex
    exact ⟨fa, fd', F'.mono (Nat.le_succ k), r⟩
theorem kb_of {nm : Str} {st : Stmt} {f : Addr} {fd : FuncData} {ps : List Str} {n : Nat} {ks : List Str} {perm : List Nat} (F : FunD K nm nm (defArgs st) (defBody st) (defScope st) [] [] f fd)
    (h : ∀ (kV doc pm : Value) (an : Option Addr) (cdv ct : Value) (us ws : List Value), us.length = n → ws.length = ks.length → bindArgs (PySem.W.fnOf nm nm (defArgs st) (defBody st) (defScope st) .none kV doc pm an cdv ct) ⟨us, ks.zip ws⟩ = pure (ps.zip (permU perm us ws))) : KBn K fd ps n ks (permU perm) (permV perm) := by
  obtain ⟨oc, od, dV, kV, doc, pm, an, cdv, ct, osl, rfl, lk, hcd, hD, hK⟩ := F.ex
  rcases hD with ⟨_, rfl⟩ | ⟨e, _⟩
  · exact ⟨fun s us ws X l1 l2 => .of_eq (h kV doc pm an cdv ct us ws l1 l2), fun r1 r2 => perm_vals r1 r2 perm⟩
  · exact absurd rfl e
end
/-- the law's call at a script -/
theorem reps_ints {K : Frag} {H : Hp} {ι : List Addr} : ∀ ns : List Int, Reps K H ι (ns.map V.int) (ns.map D.int)
  | [] => .nil
  | n :: ns => .cons (.int n) (reps_ints ns)
theorem law_sp {K : Frag} {H : Hp} {a : Addr} {ns : List Int} {m : FnD} {E : XK} (hO : Only H) (hS : SqL K H a (ns.map V.int)) (h : ∃ h', m [.ref 0] [.fro (ns.map .int)] = .ret (.val (.bl true)) h') : spD K XR0 1 m [.ref a] H (fun v _ => v = .bl true) E := by
  obtain ⟨h', eq⟩ := h
  have fro : FroOk K H a (ns.map V.int) := by
    rcases hS with (q | q) | q
    · rcases hO a with z | ⟨o, xs, z⟩
      · rw [z] at q; cases q
      · rw [z] at q; cases q
    · exact .inl q
    · exact .inr q
  have at_ : ∀ {x b n}, At [a] (cel [.fro (ns.map .int)]) noσ x b n → b = a ∧ n = .fro (ns.map .int) := fun {x b n} hx => by
    obtain ⟨l, rfl, h1, h2⟩ := hx.cells
    cases l with
    | zero => simp at h1 h2; exact ⟨h2.symm, h1.symm⟩
    | succ l => simp at h1
  refine ⟨rfl, [a], [.fro (ns.map .int)], [.ref 0], ⟨rfl, rfl, fun x b n hx => ?_, fun i d e => by simp [cel] at e, fun i n e => by simp [cel] at e, fun x y b n n' hx hy m _ => ?_⟩, .cons (.ref rfl) .nil, ?_⟩
  · obtain ⟨rfl, rfl⟩ := at_ hx
    exact ⟨_, fro, reps_ints ns⟩
  · obtain ⟨_, rfl⟩ := at_ hx
    cases m
  · rw [eq]
    intro ι' v H' P k n
    cases (show Rep _ _ _ _ _ from k)
    rfl
end Y

/-! Y21: running programs of the small language. -/
set_option linter.all false
set_option maxRecDepth 100000
set_option Elab.async false
set_option autoImplicit false
set_option maxHeartbeats 1000000
namespace Y
open PySem
/-- it ends well, so -/
def Ok {α : Type} (m : M α) (s : St) (Q : α → St → Prop) : Prop := ∃ a s', m s = .ok a s' ∧ Q a s'
def Fn (f : FnD) (ds : List D) (h : List Node) (Q : RV → List Node → Prop) : Prop := ∃ r h', f ds h = .ret r h' ∧ Q r h'
theorem Ok.mono {α : Type} {m : M α} {s : St} {Q Q' : α → St → Prop} (h : Ok m s Q) (q : ∀ a s', Q a s' → Q' a s') : Ok m s Q' := by
  obtain ⟨a, s', e, h⟩ := h
  exact ⟨a, s', e, q a s' h⟩
theorem Fn.mono {f : FnD} {ds : List D} {h : List Node} {Q Q' : RV → List Node → Prop} (x : Fn f ds h Q) (q : ∀ a s', Q a s' → Q' a s') : Fn f ds h Q' := by
  obtain ⟨a, s', e, h⟩ := x
  exact ⟨a, s', e, q a s' h⟩
theorem ok_of {α : Type} {m : M α} {s s' : St} {a : α} {Q : α → St → Prop} (e : m s = .ok a s') : Ok m s Q ↔ Q a s' := by
  constructor
  · rintro ⟨b, s2, e2, h⟩
    rw [e] at e2; cases e2; exact h
  · exact fun h => ⟨a, s', e, h⟩
theorem ok_bind {α β : Type} {m : M α} {f : α → M β} {s : St} {Q : β → St → Prop} : Ok (M.bind m f) s Q ↔ Ok m s fun a s' => Ok (f a) s' Q := by
  constructor
  · rintro ⟨b, s2, e, h⟩
    obtain ⟨a, s1, e1, e2⟩ := bind_ok e
    exact ⟨a, s1, e1, b, s2, e2, h⟩
  · rintro ⟨a, s1, e1, b, s2, e2, h⟩
    exact ⟨b, s2, by unfold M.bind; rw [e1]; exact e2, h⟩
theorem ok_bind' {α β : Type} {m : M α} {f : α → M β} {s : St} {Q : β → St → Prop} : Ok (m >>= f) s Q ↔ Ok m s fun a s' => Ok (f a) s' Q := ok_bind
theorem ok_pure {α : Type} {a : α} {s : St} {Q : α → St → Prop} : Ok (M.pure a) s Q ↔ Q a s := ok_of rfl
theorem ok_pure' {α : Type} {a : α} {s : St} {Q : α → St → Prop} : Ok (Pure.pure a : M α) s Q ↔ Q a s := ok_of rfl
theorem ok_val {d : D} {s : St} {Q : Opd → St → Prop} : Ok (val d) s Q ↔ Q (.val d) s := ok_of rfl
theorem ok_tmp {n : Node} {s : St} {Q : Opd → St → Prop} : Ok (tmp n) s Q ↔ Q (.tmp n) s := ok_of rfl
theorem ok_call {f : FnD} {ds : List D} {s : St} {Q : Opd → St → Prop} : Ok (callF f ds) s Q ↔ Fn f ds s.hp fun r h => Q r.opd ⟨s.sl, h⟩ := by
  constructor
  · rintro ⟨a, s', e, h⟩
    unfold callF at e
    cases ef : f ds s.hp with
    | ret r h' => rw [ef] at e; cases e; exact ⟨r, h', ef, h⟩
    | exc x h' => rw [ef] at e; cases e
    | stuck => rw [ef] at e; cases e
  · rintro ⟨r, h', e, h⟩
    exact ⟨_, _, by unfold callF; rw [e], h⟩
theorem ok_bl {m : M Bool} {s : St} {Q : Opd → St → Prop} : Ok (bl m) s Q ↔ Ok m s fun b s' => Q (.val (.bl b)) s' := by
  constructor
  · rintro ⟨a, s', e, h⟩
    unfold bl at e
    cases em : m s with
    | ok b s3 => rw [em] at e; cases e; exact ⟨b, _, em, h⟩
    | exc x s2 => rw [em] at e; cases e
    | stuck => rw [em] at e; cases e
  · rintro ⟨b, s', e, h⟩
    exact ⟨_, _, by unfold bl; rw [e], h⟩
theorem ok_drop {m : M Opd} {s : St} {Q : Fl → St → Prop} : Ok (Y.drop m) s Q ↔ Ok m s fun _ s' => Q .next s' := by
  rw [drop_eq, ok_bind]
  simp only [ok_pure]
theorem ok_thenN {m : M Unit} {s : St} {Q : Fl → St → Prop} : Ok (thenN m) s Q ↔ Ok m s fun _ s' => Q .next s' := by
  rw [thenN_eq, ok_bind]
  simp only [ok_pure]
theorem ok_seq {a b : M Fl} {s : St} {Q : Fl → St → Prop} : Ok (mSeq a b) s Q ↔ Ok a s fun f s' => match f with
    | .next => Ok b s' Q
    | f => Q f s' := by
  constructor
  · rintro ⟨f, s', e, h⟩
    unfold mSeq at e
    cases ea : a s with
    | ok g s1 =>
      rw [ea] at e
      refine ⟨g, s1, ea, ?_⟩
      cases g with
      | next => exact ⟨f, s', e, h⟩
      | _ => cases e; exact h
    | exc x s2 => rw [ea] at e; cases e
    | stuck => rw [ea] at e; cases e
  · rintro ⟨g, s1, ea, h⟩
    cases g with
    | next =>
      obtain ⟨f, s', e, h⟩ := h
      exact ⟨f, s', by unfold mSeq; rw [ea]; exact e, h⟩
    | _ => exact ⟨_, s1, by unfold mSeq; rw [ea], h⟩
theorem ok_ite {α : Type} {c : Prop} [Decidable c] {a b : M α} {s : St} {Q : α → St → Prop} : Ok (if c then a else b) s Q ↔ if c then Ok a s Q else Ok b s Q := by
  split <;> exact Iff.rfl
theorem ok_stuck {α : Type} {s : St} {Q : α → St → Prop} : Ok (stuckM : M α) s Q ↔ False := ⟨(fun ⟨_, _, e, _⟩ => by cases e), False.elim⟩
/-- what an outcome must be -/
def OkM {α : Type} (Q : α → St → Prop) : Res α → Prop
  | .ok a s => Q a s
  | _ => False
theorem okM_ok {α : Type} {Q : α → St → Prop} {a : α} {s : St} : OkM Q (.ok a s) ↔ Q a s := Iff.rfl
theorem okM_stuck {α : Type} {Q : α → St → Prop} : OkM Q .stuck ↔ False := Iff.rfl
theorem okM_exc {α : Type} {Q : α → St → Prop} {x : Exn} {s : St} : OkM Q (.exc x s) ↔ False := Iff.rfl
theorem okM_ite {α : Type} {Q : α → St → Prop} {c : Prop} [Decidable c] {a b : Res α} : OkM Q (if c then a else b) ↔ if c then OkM Q a else OkM Q b := by
  split <;> exact Iff.rfl
theorem ok_iff {α : Type} {m : M α} {s : St} {Q : α → St → Prop} : Ok m s Q ↔ OkM Q (m s) := by
  constructor
  · rintro ⟨a, s', e, h⟩; rw [e]; exact h
  · intro h
    cases e : m s with
    | ok a s' => rw [e] at h; exact ⟨a, s', e, h⟩
    | exc x s' => rw [e] at h; exact h.elim
    | stuck => rw [e] at h; exact h.elim
section
variable {s : St} {x y : Opd} {Q : Opd → St → Prop} {QB : Bool → St → Prop} {QU : Unit → St → Prop} {QD : D → St → Prop} {QW : Walk → St → Prop}
theorem ok_op2 {o : Op2} : Ok (op2 o x y) s Q ↔ OkM Q (op2 o x y s) := ok_iff
theorem ok_cmp {c : Cm} : Ok (cmp c x y) s QB ↔ OkM QB (cmp c x y s) := ok_iff
theorem ok_truth : Ok (truth x) s QB ↔ OkM QB (truth x s) := ok_iff
theorem ok_subO : Ok (subO x y) s Q ↔ OkM Q (subO x y s) := ok_iff
theorem ok_cutO {l h : Option Int} : Ok (cutO x l h) s Q ↔ OkM Q (cutO x l h s) := ok_iff
theorem ok_revO : Ok (revO x) s Q ↔ OkM Q (revO x s) := ok_iff
theorem ok_negO : Ok (negO x) s Q ↔ OkM Q (negO x s) := ok_iff
theorem ok_intOf {Q : Option Int → St → Prop} : Ok (intOf x) s Q ↔ OkM Q (intOf x s) := ok_iff
theorem ok_bi {b : BI} {os : List Opd} : Ok (bi b os) s Q ↔ OkM Q (bi b os s) := ok_iff
theorem ok_meth {m : Me} {ds : List D} : Ok (meth m x ds) s Q ↔ OkM Q (meth m x ds s) := ok_iff
theorem ok_metOk {m : Me} : Ok (metOk m x) s QU ↔ OkM QU (metOk m x s) := ok_iff
theorem ok_putO {i v : D} : Ok (putO x i v) s QU ↔ OkM QU (putO x i v s) := ok_iff
theorem ok_isi {ts : List Ty} : Ok (isi ts x) s Q ↔ OkM Q (isi ts x s) := ok_iff
theorem ok_mVar {i : Nat} : Ok (mVar i) s Q ↔ OkM Q (mVar i s) := ok_iff
theorem ok_toD : Ok (toD x) s QD ↔ OkM QD (toD x s) := ok_iff
theorem ok_stO {i : Nat} : Ok (stO i x) s QU ↔ OkM QU (stO i x s) := ok_iff
theorem ok_rvO {Q : RV → St → Prop} : Ok (rvO x) s Q ↔ OkM Q (rvO x s) := ok_iff
theorem ok_asB : Ok (asB x) s QB ↔ OkM QB (asB x s) := ok_iff
theorem ok_settle {w : Walk} : Ok (settle w) s QW ↔ OkM QW (settle w s) := ok_iff
theorem ok_mRng {os : List Opd} : Ok (mRng os) s QW ↔ OkM QW (mRng os s) := ok_iff
theorem ok_walkO : Ok (walkO x) s QW ↔ OkM QW (walkO x s) := ok_iff
theorem ok_put {i : Nat} {d : D} : Ok (Tg.put (.name i) d) s QU ↔ OkM QU (Tg.put (.name i) d s) := ok_iff
theorem ok_putT {ts : List Tg} {ds : List D} : Ok (Tg.put (.tup ts) (.tup ds)) s QU ↔ Ok (Tg.puts ts ds) s QU := by
  rw [ok_iff, ok_iff]; simp only [Tg.put]
theorem ok_puts0 : Ok (Tg.puts [] []) s QU ↔ QU () s := by simp only [Tg.puts]; exact ok_pure'
theorem ok_putsC {t : Tg} {ts : List Tg} {d : D} {ds : List D} : Ok (Tg.puts (t :: ts) (d :: ds)) s QU ↔ Ok (t.put d) s fun _ s' => Ok (Tg.puts ts ds) s' QU := by
  simp only [Tg.puts]; exact ok_bind'
theorem ok_setNode {n : Node} : Ok (setNode x n) s QU ↔ OkM QU (setNode x n s) := ok_iff
end
theorem ok_mDs0 {s : St} {Q : List D → St → Prop} : Ok (mDs []) s Q ↔ Q [] s := ok_pure
theorem ok_mDsC {m : Mean} {ms : List Mean} {s : St} {Q : List D → St → Prop} : Ok (mDs (m :: ms)) s Q ↔ Ok m.E s fun o s1 => Ok (toD o) s1 fun d s2 => Ok (mDs ms) s2 fun ds s3 => Q (d :: ds) s3 := by
  show Ok (M.bind m.E fun o => M.bind (toD o) fun d => M.bind (mDs ms) fun ds => M.pure (d :: ds)) s Q ↔ _
  simp only [ok_bind, ok_pure]
theorem ok_mOs0 {s : St} {Q : List Opd → St → Prop} : Ok (mOs []) s Q ↔ Q [] s := ok_pure
theorem ok_mOsC {m : Mean} {ms : List Mean} {s : St} {Q : List Opd → St → Prop} : Ok (mOs (m :: ms)) s Q ↔ Ok m.E s fun o s1 => Ok (mOs ms) s1 fun os s3 => Q (o :: os) s3 := by
  show Ok (M.bind m.E fun o => M.bind (mOs ms) fun ds => M.pure (o :: ds)) s Q ↔ _
  simp only [ok_bind, ok_pure]
theorem ok_mPart0 {s : St} {Q : Option Int → St → Prop} : Ok (mPart []) s Q ↔ Q none s := ok_pure
theorem ok_mPart1 {m : Mean} {s : St} {Q : Option Int → St → Prop} : Ok (mPart [m]) s Q ↔ Ok m.E s fun o s1 => Ok (intOf o) s1 Q := ok_bind
theorem ok_mIfs0 {s : St} {Q : Bool → St → Prop} : Ok (mIfs []) s Q ↔ Q true s := ok_pure
theorem ok_mIfsC {m : Mean} {ms : List Mean} {s : St} {Q : Bool → St → Prop} : Ok (mIfs (m :: ms)) s Q ↔ Ok m.T s fun b s1 => if b = true then Ok (mIfs ms) s1 Q else Q false s1 := by
  show Ok (M.bind m.T fun b => if b = true then mIfs ms else M.pure false) s Q ↔ _
  simp only [ok_bind, ok_ite, ok_pure]
theorem ok_mRet {m : M Opd} {s : St} {Q : Fl → St → Prop} : Ok (mRet m) s Q ↔ Ok m s fun o s1 => Ok (rvO o) s1 fun r s2 => Q (.ret r) s2 := by
  show Ok (M.bind m fun o => M.bind (rvO o) fun r => M.pure (Fl.ret r)) s Q ↔ _
  simp only [ok_bind, ok_pure]
theorem ok_mPar {i j : Nat} {a b : M Opd} {s : St} {Q : Fl → St → Prop} : Ok (mPar i j a b) s Q ↔ Ok a s fun x s1 => Ok (if x.settled = true then M.pure x else M.bind (toD x) fun d => M.pure (Opd.val d)) s1 fun x s2 => Ok b s2 fun y s3 =>
    Ok (if y.settled = true then M.pure y else M.bind (toD y) fun d => M.pure (Opd.val d)) s3 fun y s4 => Ok (stO j y) s4 fun _ s5 => Ok (stO i x) s5 fun _ s6 => Q .next s6 := by
  show Ok (thenN (M.bind a fun x => M.bind (if x.settled = true then M.pure x else M.bind (toD x) fun d => M.pure (Opd.val d)) fun x => M.bind b fun y => M.bind (if y.settled = true then M.pure y else M.bind (toD y) fun d => M.pure (Opd.val d)) fun y => M.bind (stO j y) fun _ => stO i x)) s Q ↔ _
  simp only [ok_thenN, ok_bind]
/-- a function's body -/
theorem fn_mkF {n : Nat} {body : M Fl} {ds : List D} {h : List Node} {Q : RV → List Node → Prop} : Fn (mkF n body) ds h Q ↔ Ok body ⟨ds.map .val ++ List.replicate (n - ds.length) .unset, h⟩ fun f s => match f with
    | .ret r => Q r (gc h.length r s.hp)
    | .next => Q (.val .non) (gc h.length (.val .non) s.hp)
    | _ => False := by
  constructor
  · rintro ⟨r, h', e, q⟩
    unfold mkF at e
    cases eb : body ⟨ds.map .val ++ List.replicate (n - ds.length) .unset, h⟩ with
    | ok f s =>
      rw [eb] at e
      refine ⟨f, s, eb, ?_⟩
      cases f with
      | ret r => cases e; exact q
      | next => cases e; exact q
      | brk => cases e
      | cont => cases e
    | exc x s => rw [eb] at e; cases e
    | stuck => rw [eb] at e; cases e
  · rintro ⟨f, s, e, q⟩
    cases f with
    | ret r => exact ⟨r, _, by unfold mkF; rw [e], q⟩
    | next => exact ⟨_, _, by unfold mkF; rw [e], q⟩
    | brk => exact q.elim
    | cont => exact q.elim
theorem gc_same {n : Nat} {r : RV} {h : List Node} (l : h.length ≤ n) : gc n r h = h := by
  unfold gc
  split
  · exact List.take_of_length_le l
  · rfl
theorem fn_ret {f : FnD} {ds : List D} {h h' : List Node} {r : RV} {Q : RV → List Node → Prop} (e : f ds h = .ret r h') : Fn f ds h Q ↔ Q r h' := by
  constructor
  · rintro ⟨r2, h2, e2, q⟩
    rw [e] at e2; cases e2; exact q
  · exact fun q => ⟨r, h', e, q⟩
theorem fn_eq {f : FnD} {ds : List D} {h h' : List Node} {r : RV} (x : Fn f ds h fun r2 h2 => r2 = r ∧ h2 = h') : f ds h = .ret r h' := by
  obtain ⟨r2, h2, e, rfl, rfl⟩ := x
  exact e
/-! ### loops -/
theorem ok_while {c : M Bool} {body : M Fl} {Q : Fl → St → Prop} (I : Nat → St → Prop)
    (step : ∀ n s, I n s → Ok c s fun b s1 => if b = true then Ok body s1 (fun f s2 => match f with
      | .next => ∃ m, m < n ∧ I m s2
      | .cont => ∃ m, m < n ∧ I m s2
      | .brk => Q .next s2
      | .ret r => Q (.ret r) s2) else Q .next s1) : ∀ n s, I n s → Ok (mWhl c body) s Q := by
  intro n
  induction n using Nat.strongRecOn with
  | ind n ih =>
    intro s hi
    obtain ⟨b, s1, ec, h⟩ := step n s hi
    cases b with
    | false => exact ⟨.next, s1, by rw [mWhl_eq, ec], h⟩
    | true =>
      rw [if_pos rfl] at h
      obtain ⟨f, s2, eb, h⟩ := h
      cases f with
      | next =>
        obtain ⟨m, hm, hi2⟩ := h
        obtain ⟨g, s3, e3, q⟩ := ih m hm s2 hi2
        exact ⟨g, s3, by rw [mWhl_eq, ec]; simp only [eb]; exact e3, q⟩
      | cont =>
        obtain ⟨m, hm, hi2⟩ := h
        obtain ⟨g, s3, e3, q⟩ := ih m hm s2 hi2
        exact ⟨g, s3, by rw [mWhl_eq, ec]; simp only [eb]; exact e3, q⟩
      | brk => exact ⟨.next, s2, by rw [mWhl_eq, ec]; simp only [eb], h⟩
      | ret r => exact ⟨.ret r, s2, by rw [mWhl_eq, ec]; simp only [eb], h⟩
/-- the walk's items, one by one; I: the invariant by the items that are left -/
theorem ok_for {w : Walk} {t : Tg} {body : M Fl} {Q : Fl → St → Prop} (I : List D → St → Prop)
    (step : ∀ d ds s, I (d :: ds) s → w.same s = true ∧ Ok (t.put d) s fun _ s1 => Ok body s1 fun f s2 => match f with
      | .next => I ds s2
      | .cont => I ds s2
      | .brk => Q .next s2
      | .ret r => Q (.ret r) s2)
    (stop : ∀ s, I [] s → w.same s = true ∧ Q .next s) : ∀ ds s, I ds s → Ok (forGo w t body ds) s Q := by
  intro ds
  induction ds with
  | nil =>
    intro s hi
    obtain ⟨h1, h2⟩ := stop s hi
    exact ⟨.next, s, by unfold forGo; rw [if_pos h1], h2⟩
  | cons d ds ih =>
    intro s hi
    obtain ⟨h1, z, s1, e1, f, s2, e2, h2⟩ := step d ds s hi
    have e : (t.put d >>= fun _ => body) s = .ok f s2 := by rw [bind_def, e1]; exact e2
    cases f with
    | next =>
      obtain ⟨g, s3, e3, q⟩ := ih s2 h2
      exact ⟨g, s3, by unfold forGo; rw [if_pos h1, e]; exact e3, q⟩
    | cont =>
      obtain ⟨g, s3, e3, q⟩ := ih s2 h2
      exact ⟨g, s3, by unfold forGo; rw [if_pos h1, e]; exact e3, q⟩
    | brk => exact ⟨.next, s2, by unfold forGo; rw [if_pos h1, e], h2⟩
    | ret r => exact ⟨.ret r, s2, by unfold forGo; rw [if_pos h1, e], h2⟩
/-- a comprehension; base: the slots with its own names wiped; I: by the items left, the list so far, the places -/
theorem ok_lcGo {w : Walk} {own : List Nat} {elt : M Opd} {t : Tg} {ifs : M Bool} {base : List Slot} {Q : List D → St → Prop} (I : List D → List D → List Node → Prop)
    (step : ∀ d ds acc hp, I (d :: ds) acc hp → w.same ⟨base, hp⟩ = true ∧ Ok (t.put d) ⟨base, hp⟩ fun _ s1 => Ok ifs s1 fun b s2 =>
      if b = true then Ok elt s2 (fun o s3 => Ok (toD o) s3 fun e s4 => acc.length < lim ∧ wipe own s4.sl = base ∧ I ds (acc ++ [e]) s4.hp) else wipe own s2.sl = base ∧ I ds acc s2.hp)
    (stop : ∀ acc hp, I [] acc hp → w.same ⟨base, hp⟩ = true ∧ Q acc ⟨base, hp⟩) : ∀ ds acc hp, I ds acc hp → Ok (lcGo w own elt t ifs ds acc) ⟨base, hp⟩ Q := by
  intro ds
  induction ds with
  | nil =>
    intro acc hp hi
    obtain ⟨h1, h2⟩ := stop acc hp hi
    exact ⟨acc, _, by unfold lcGo; rw [if_pos h1], h2⟩
  | cons d ds ih =>
    intro acc hp hi
    obtain ⟨h1, z, s1, e1, b, s2, e2, h2⟩ := step d ds acc hp hi
    have e : (t.put d >>= fun _ => ifs) ⟨base, hp⟩ = .ok b s2 := by rw [bind_def, e1]; exact e2
    cases b with
    | false =>
      rw [if_neg Bool.false_ne_true] at h2
      obtain ⟨hb, hi2⟩ := h2
      obtain ⟨r, s3, e3, q⟩ := ih acc s2.hp hi2
      exact ⟨r, s3, by unfold lcGo; rw [if_pos h1, e]; simp only [hb]; exact e3, q⟩
    | true =>
      rw [if_pos rfl] at h2
      obtain ⟨o, s3, e3, x, s4, e4, hl, hb, hi2⟩ := h2
      have e' : (elt >>= toD) s2 = .ok x s4 := by rw [bind_def, e3]; exact e4
      obtain ⟨r, s5, e5, q⟩ := ih (acc ++ [x]) s4.hp hi2
      exact ⟨r, s5, by unfold lcGo; rw [if_pos h1, e]; simp only [e', if_pos hl, hb]; exact e5, q⟩
theorem ok_lc {own : List Nat} {elt : M Opd} {t : Tg} {src : M Walk} {ifs : M Bool} {s : St} {Q : Opd → St → Prop} : Ok (mLc own elt t src ifs) s Q ↔ Ok src s fun w s1 => Ok (lcGo w own elt t ifs w.ds []) ⟨wipe own s1.sl, s1.hp⟩ fun ds s2 => Q (.tmp (.lst ds)) ⟨unwipe own s1.sl s2.sl, s2.hp⟩ := by
  constructor
  · rintro ⟨a, s', e, h⟩
    unfold mLc at e
    cases es : src s with
    | ok w s1 =>
      rw [es] at e
      simp only at e
      cases el : lcGo w own elt t ifs w.ds [] { s1 with sl := wipe own s1.sl } with
      | ok ds s2 => rw [el] at e; cases e; exact ⟨w, s1, es, ds, s2, el, h⟩
      | exc x s2 => rw [el] at e; cases e
      | stuck => rw [el] at e; cases e
    | exc x s2 => rw [es] at e; cases e
    | stuck => rw [es] at e; cases e
  · rintro ⟨w, s1, e1, ds, s2, e2, h⟩
    refine ⟨_, _, ?_, h⟩
    unfold mLc
    rw [e1]
    simp only
    have e2' : lcGo w own elt t ifs w.ds [] { s1 with sl := wipe own s1.sl } = .ok ds s2 := e2
    rw [e2']
theorem ok_lc2 {own vs1 : List Nat} {elt : M Opd} {t t1 : Tg} {src src1 : M Walk} {ifs ifs1 : M Bool} {s : St} {Q : Opd → St → Prop} : Ok (mLc2 own vs1 elt t src ifs t1 src1 ifs1) s Q ↔ Ok src s fun w s1 => Ok (lcGo2 w own vs1 elt t ifs t1 src1 ifs1 w.ds []) ⟨wipe own s1.sl, s1.hp⟩ fun ds s2 => Q (.tmp (.lst ds)) ⟨unwipe own s1.sl s2.sl, s2.hp⟩ := by
  constructor
  · rintro ⟨a, s', e, h⟩
    unfold mLc2 at e
    cases es : src s with
    | ok w s1 =>
      rw [es] at e
      simp only at e
      cases el : lcGo2 w own vs1 elt t ifs t1 src1 ifs1 w.ds [] { s1 with sl := wipe own s1.sl } with
      | ok ds s2 => rw [el] at e; cases e; exact ⟨w, s1, es, ds, s2, el, h⟩
      | exc x s2 => rw [el] at e; cases e
      | stuck => rw [el] at e; cases e
    | exc x s2 => rw [es] at e; cases e
    | stuck => rw [es] at e; cases e
  · rintro ⟨w, s1, e1, ds, s2, e2, h⟩
    refine ⟨_, _, ?_, h⟩
    unfold mLc2
    rw [e1]
    simp only
    have e2' : lcGo2 w own vs1 elt t ifs t1 src1 ifs1 w.ds [] { s1 with sl := wipe own s1.sl } = .ok ds s2 := e2
    rw [e2']
/-- what is walked is a value of its own -/
theorem same_none {ds : List D} {s : St} : (Walk.mk ds none).same s = true := rfl
theorem same_tmp {ds : List D} {s : St} : (Walk.mk ds (some (.tmp (.lst ds), ds))).same s = true := by
  unfold Walk.same
  exact @decide_eq_true _ (Classical.propDecidable _) rfl
theorem same_of {ds xs : List D} {o : Opd} {s : St} (h : lstOf o s = some xs) : (Walk.mk ds (some (o, xs))).same s = true := by
  unfold Walk.same
  exact @decide_eq_true _ (Classical.propDecidable _) h
/-- a comprehension that changes nothing: each item gives g of it -/
theorem ok_lc_pure {own : List Nat} {elt : M Opd} {t : Tg} {ifs : M Bool} {w : Walk} {sl : List Slot} {hp : List Node} {Q : List D → St → Prop} (g : D → Option D) (hw : w.same ⟨wipe own sl, hp⟩ = true) (hl : w.ds.length ≤ lim)
    (h : ∀ d ∈ w.ds, Ok (t.put d) ⟨wipe own sl, hp⟩ fun _ s1 => Ok ifs s1 fun b s2 => if b = true then Ok elt s2 (fun o s3 => Ok (toD o) s3 fun e s4 => g d = some e ∧ wipe own s4.sl = wipe own sl ∧ s4.hp = hp) else g d = none ∧ wipe own s2.sl = wipe own sl ∧ s2.hp = hp)
    (q : Q (w.ds.filterMap g) ⟨wipe own sl, hp⟩) : Ok (lcGo w own elt t ifs w.ds []) ⟨wipe own sl, hp⟩ Q := by
  refine ok_lcGo (fun ds acc hp' => hp' = hp ∧ ∃ pre, w.ds = pre ++ ds ∧ acc = pre.filterMap g) ?_ ?_ w.ds [] hp ⟨rfl, [], rfl, rfl⟩
  · rintro d ds acc hp' ⟨rfl, pre, e, rfl⟩
    have hd : d ∈ w.ds := by rw [e]; simp
    have hlen : (pre.filterMap g).length < lim := by
      have a1 := List.length_filterMap_le g pre
      have a2 := congrArg List.length e
      rw [List.length_append, List.length_cons] at a2
      omega
    refine ⟨hw, (h d hd).mono fun _ s1 h1 => h1.mono fun b s2 h2 => ?_⟩
    split
    · rename_i hb
      rw [if_pos hb] at h2
      refine h2.mono fun o s3 h3 => h3.mono fun x s4 h4 => ?_
      obtain ⟨q1, q2, q3⟩ := h4
      exact ⟨hlen, q2, q3, pre ++ [d], by rw [e]; simp, by rw [List.filterMap_append]; simp [q1]⟩
    · rename_i hb
      rw [if_neg hb] at h2
      obtain ⟨q1, q2, q3⟩ := h2
      exact ⟨q2, q3, pre ++ [d], by rw [e]; simp, by rw [List.filterMap_append]; simp [q1]⟩
  · rintro acc hp' ⟨rfl, pre, e, rfl⟩
    rw [List.append_nil] at e
    rw [← e]
    exact ⟨hw, q⟩
end Y

/-! Y22: the steps by equations, each for a known form. -/
set_option linter.all false
set_option maxRecDepth 100000
set_option Elab.async false
set_option autoImplicit false
set_option maxHeartbeats 1000000
namespace Y
open PySem
/-- the item that an index means -/
def atI (ds : List D) (i : Int) : Option D := (ixN ds.length i).bind fun j => ds[j]?
theorem atI_nat (ds : List D) (k : Nat) : atI ds (k : Int) = ds[k]? := by
  unfold atI ixN
  rw [if_pos (by omega)]
  split
  · simp
  · rename_i h
    rw [List.getElem?_eq_none (by omega)]
    rfl
theorem atI_0 (ds : List D) : atI ds 0 = ds[0]? := atI_nat ds 0
theorem atI_1 (ds : List D) : atI ds 1 = ds[1]? := atI_nat ds 1
theorem atI_2 (ds : List D) : atI ds 2 = ds[2]? := atI_nat ds 2
theorem atI_3 (ds : List D) : atI ds 3 = ds[3]? := atI_nat ds 3
theorem atI_4 (ds : List D) : atI ds 4 = ds[4]? := atI_nat ds 4
theorem atI_5 (ds : List D) : atI ds 5 = ds[5]? := atI_nat ds 5
theorem atI_6 (ds : List D) : atI ds 6 = ds[6]? := atI_nat ds 6
theorem atI_7 (ds : List D) : atI ds 7 = ds[7]? := atI_nat ds 7
theorem atI_pos (ds : List D) {i : Int} (h : 0 ≤ i) : atI ds i = ds[i.toNat]? := by
  have := atI_nat ds i.toNat
  rwa [Int.toNat_of_nonneg h] at this
theorem atI_last (ds : List D) : atI ds (-1) = ds.getLast? := by
  unfold atI ixN
  rw [if_neg (by omega)]
  cases ds with
  | nil => rfl
  | cons d ds =>
    rw [if_pos (by simp; omega)]
    have : (-1 + ((d :: ds).length : Int)).toNat = (d :: ds).length - 1 := by simp; omega
    rw [this]
    simp [List.getLast?_eq_getElem?]
section
variable {sl : List Slot} {hp : List Node} {s : St} {d e : D} {i j : Int} {k l : Nat} {n : Node} {ds es xs ys : List D} {a b : Str} {p q : Bool}
-- equality, flatness
theorem q_dII : D.eq (.int i) (.int j) = (i == j) := by simp only [D.eq]
theorem q_dSS : D.eq (.str a) (.str b) = (a == b) := by simp only [D.eq]
theorem q_dBB : D.eq (.bl p) (.bl q) = (p == q) := by simp only [D.eq]
theorem q_dNN : D.eq .non .non = true := by simp only [D.eq]
theorem q_dTT : D.eq (.tup xs) (.tup ys) = D.eqs xs ys := by simp only [D.eq]
theorem q_dNI : D.eq .non (.int j) = false := by simp only [D.eq]
theorem q_dIN : D.eq (.int i) .non = false := by simp only [D.eq]
theorem q_dSI : D.eq (.str a) (.int j) = false := by simp only [D.eq]
theorem q_dIS : D.eq (.int i) (.str b) = false := by simp only [D.eq]
theorem q_dIT : D.eq (.int i) (.tup ys) = false := by simp only [D.eq]
theorem q_dTI : D.eq (.tup xs) (.int j) = false := by simp only [D.eq]
theorem q_dNT : D.eq .non (.tup ys) = false := by simp only [D.eq]
theorem q_dTN : D.eq (.tup xs) .non = false := by simp only [D.eq]
theorem q_dST : D.eq (.str a) (.tup ys) = false := by simp only [D.eq]
theorem q_dTS : D.eq (.tup xs) (.str b) = false := by simp only [D.eq]
theorem q_ds0 : D.eqs [] [] = true := by simp only [D.eqs]
theorem q_dsC : D.eqs (d :: xs) (e :: ys) = (D.eq d e && D.eqs xs ys) := by simp only [D.eqs]
theorem q_dsL : D.eqs [] (e :: ys) = false := by simp only [D.eqs]
theorem q_dsR : D.eqs (d :: xs) [] = false := by simp only [D.eqs]
theorem q_fI : D.flat k (.int i) = true := by cases k <;> simp only [D.flat]
theorem q_fB : D.flat k (.bl p) = true := by cases k <;> simp only [D.flat]
theorem q_fN : D.flat k .non = true := by cases k <;> simp only [D.flat]
theorem q_fT : D.flat (k + 1) (.tup xs) = D.flats k xs := by simp only [D.flat]
theorem q_fS : D.flat k (.str a) = a.cps.all (· < 1114112) := by cases k <;> simp only [D.flat]
theorem q_f0 : D.flats k [] = true := by cases k <;> simp only [D.flats]
theorem q_fC : D.flats k (d :: xs) = (D.flat k d && D.flats k xs) := by cases k <;> simp only [D.flats]
-- names
theorem q_mVar : mVar k ⟨sl, hp⟩ = match sl[k]? with
  | some (.val d) => .ok (.val d) ⟨sl, hp⟩
  | some (.own _) => .ok (.own k) ⟨sl, hp⟩
  | _ => .stuck := rfl
theorem q_toDv : toD (.val d) s = .ok d s := rfl
theorem q_toDt : toD (.tmp n) ⟨sl, hp⟩ = .ok (.ref hp.length) ⟨sl, hp ++ [n]⟩ := rfl
theorem q_toDo : toD (.own k) ⟨sl, hp⟩ = match sl[k]? with
  | some (.own n) => .ok (.ref hp.length) ⟨sl.set k (.val (.ref hp.length)), hp ++ [n]⟩
  | some (.val d) => .ok d ⟨sl, hp⟩
  | _ => .stuck := rfl
theorem q_stOv : stO k (.val d) ⟨sl, hp⟩ = if k < sl.length then .ok () ⟨sl.set k (.val d), hp⟩ else .stuck := rfl
theorem q_stOt : stO k (.tmp n) ⟨sl, hp⟩ = if k < sl.length then .ok () ⟨sl.set k (.own n), hp⟩ else .stuck := rfl
theorem q_stOo : stO k (.own l) ⟨sl, hp⟩ = if k < sl.length then (match sl[l]? with
    | some (.val d) => .ok () ⟨sl.set k (.val d), hp⟩
    | some (.own n) => if k = l then .ok () ⟨sl, hp⟩ else .ok () ⟨(sl.set l (.val (.ref hp.length))).set k (.val (.ref hp.length)), hp ++ [n]⟩
    | _ => .stuck) else .stuck := rfl
theorem q_rvOv : rvO (.val d) s = .ok (.val d) s := rfl
theorem q_rvOt : rvO (.tmp n) s = .ok (.node n) s := rfl
theorem q_rvOo : rvO (.own k) ⟨sl, hp⟩ = match sl[k]? with
    | some (.own n) => .ok (.node n) ⟨sl, hp⟩
    | some (.val d) => .ok (.val d) ⟨sl, hp⟩
    | _ => .stuck := rfl
theorem q_put : Tg.put (.name k) d ⟨sl, hp⟩ = if k < sl.length then .ok () ⟨sl.set k (.val d), hp⟩ else .stuck := by simp only [Tg.put]
-- operators
theorem q_addI : op2 .add (.val (.int i)) (.val (.int j)) s = .ok (.val (.int (i + j))) s := rfl
theorem q_addT : op2 .add (.val (.tup xs)) (.val (.tup ys)) s = if xs.length + ys.length ≤ lim then .ok (.val (.tup (xs ++ ys))) s else .stuck := rfl
theorem q_addS : op2 .add (.val (.str a)) (.val (.str b)) s = if a.length + b.length ≤ lim then .ok (.val (.str (a ++ b))) s else .stuck := rfl
theorem q_subI : op2 .sub (.val (.int i)) (.val (.int j)) s = .ok (.val (.int (i - j))) s := rfl
theorem q_mulI : op2 .mul (.val (.int i)) (.val (.int j)) s = if i.natAbs.log2 + j.natAbs.log2 < 1000000 then .ok (.val (.int (i * j))) s else .stuck := rfl
theorem q_fdivI : op2 .fdiv (.val (.int i)) (.val (.int j)) s = if 0 < j ∧ j.natAbs.log2 < 9000 then .ok (.val (.int (i / j))) s else .stuck := rfl
theorem q_modI : op2 .mod (.val (.int i)) (.val (.int j)) s = if 0 < j then .ok (.val (.int (i % j))) s else .stuck := rfl
theorem q_powI : op2 .pow (.val (.int i)) (.val (.int j)) s = if 0 ≤ j ∧ j ≤ 1000000 ∧ i.natAbs < 2 ^ 64 then .ok (.val (.int (i ^ j.toNat))) s else .stuck := rfl
theorem q_shlI : op2 .shl (.val (.int i)) (.val (.int j)) s = if 0 ≤ j ∧ j ≤ 10000 ∧ i = 1 then .ok (.val (.int (2 ^ j.toNat))) s else .stuck := rfl
theorem q_shrI : op2 .shr (.val (.int i)) (.val (.int j)) s = if 0 ≤ j then .ok (.val (.int (i / 2 ^ j.toNat))) s else .stuck := rfl
theorem q_addLtt : op2 .add (.tmp (.lst xs)) (.tmp (.lst ys)) s = if xs.length + ys.length ≤ lim then .ok (.tmp (.lst (xs ++ ys))) s else .stuck := rfl
theorem q_addLot : op2 .add (.own k) (.tmp (.lst ys)) ⟨sl, hp⟩ = match nodeOf (.own k) ⟨sl, hp⟩ with
  | some (.lst xs) => if xs.length + ys.length ≤ lim then .ok (.tmp (.lst (xs ++ ys))) ⟨sl, hp⟩ else .stuck
  | _ => .stuck := by
  show (match nodeOf (.own k) ⟨sl, hp⟩, nodeOf (.tmp (.lst ys)) ⟨sl, hp⟩ with | some (.lst a), some (.lst b) => _ | _, _ => _) = _
  cases nodeOf (.own k) ⟨sl, hp⟩ with
  | none => rfl
  | some n => cases n <;> rfl
theorem q_addLoo : op2 .add (.own k) (.own l) ⟨sl, hp⟩ = match nodeOf (.own k) ⟨sl, hp⟩, nodeOf (.own l) ⟨sl, hp⟩ with
  | some (.lst xs), some (.lst ys) => if xs.length + ys.length ≤ lim then .ok (.tmp (.lst (xs ++ ys))) ⟨sl, hp⟩ else .stuck
  | _, _ => .stuck := rfl
theorem q_neg : negO (.val (.int i)) s = .ok (.val (.int (-i))) s := rfl
-- comparisons
theorem q_eq {x y : Opd} {Q : Bool → St → Prop} : OkM Q (cmp .eq x y s) ↔ OkM Q (eqO x y s) := Iff.rfl
theorem q_ne {x y : Opd} {Q : Bool → St → Prop} : OkM Q (cmp .ne x y s) ↔ OkM (fun b s' => Q (!b) s') (eqO x y s) := by
  show OkM Q (match eqO x y s with | .ok b s' => _ | .exc e s' => _ | .stuck => _) ↔ _
  cases eqO x y s <;> exact Iff.rfl
theorem q_eqI : eqO (.val (.int i)) (.val (.int j)) s = .ok (i == j) s := by simp [eqO, D.flat, D.eq]
theorem q_eqS : eqO (.val (.str a)) (.val (.str b)) s = .ok (a == b) s := rfl
theorem q_eqB : eqO (.val (.bl p)) (.val (.bl q)) s = .ok (p == q) s := by simp [eqO, D.flat, D.eq]
theorem q_eqIB : eqO (.val (.int i)) (.val (.bl q)) s = .ok (i == intB q) s := by simp [eqO, D.flat, D.eq, intB]
theorem q_eqBI : eqO (.val (.bl p)) (.val (.int j)) s = .ok (intB p == j) s := by simp [eqO, D.flat, D.eq, intB]
theorem q_eqT : eqO (.val (.tup xs)) (.val (.tup ys)) s = if (D.flats 59 xs && D.flats 59 ys) = true then .ok (D.eqs xs ys) s else .stuck := by simp [eqO, D.flat, D.eq]
theorem q_eqSI (h : (a.cps.all (· < 1114112)) = true) : eqO (.val (.str a)) (.val (.int j)) s = .ok false s := by simp only [eqO, D.flat, D.eq, h]; rfl
theorem q_eqIS (h : (b.cps.all (· < 1114112)) = true) : eqO (.val (.int i)) (.val (.str b)) s = .ok false s := by simp only [eqO, D.flat, D.eq, h]; rfl
theorem q_eqIT : eqO (.val (.int i)) (.val (.tup ys)) s = if D.flats 59 ys = true then .ok false s else .stuck := by simp [eqO, D.flat, D.eq]
theorem q_eqTI : eqO (.val (.tup xs)) (.val (.int j)) s = if D.flats 59 xs = true then .ok false s else .stuck := by simp [eqO, D.flat, D.eq]
theorem q_eqNI : eqO (.val .non) (.val (.int j)) s = .ok false s := by simp [eqO, D.flat, D.eq]
theorem q_eqIN : eqO (.val (.int i)) (.val .non) s = .ok false s := by simp [eqO, D.flat, D.eq]
theorem q_is {x : Opd} {Q : Bool → St → Prop} : OkM Q (cmp .isN x (.val .non) s) ↔ match isNon x s with | some b => Q b s | none => False := by
  simp only [cmp]
  cases isNon x s <;> exact Iff.rfl
theorem q_isnt {x : Opd} {Q : Bool → St → Prop} : OkM Q (cmp .notN x (.val .non) s) ↔ match isNon x s with | some b => Q (!b) s | none => False := by
  simp only [cmp]
  cases isNon x s <;> exact Iff.rfl
theorem q_isNnon : isNon (.val .non) s = some true := rfl
theorem q_isNint : isNon (.val (.int i)) s = some false := rfl
theorem q_isNbl : isNon (.val (.bl p)) s = some false := rfl
theorem q_isNstr : isNon (.val (.str a)) s = some false := rfl
theorem q_isNtup : isNon (.val (.tup ds)) s = some false := rfl
theorem q_isNref : isNon (.val (.ref l)) s = some false := rfl
theorem q_lt {Q : Bool → St → Prop} : OkM Q (cmp .lt (.val (.int i)) (.val (.int j)) s) ↔ Q (decide (i < j)) s := Iff.rfl
theorem q_gt {Q : Bool → St → Prop} : OkM Q (cmp .gt (.val (.int i)) (.val (.int j)) s) ↔ Q (decide (j < i)) s := Iff.rfl
theorem q_le {Q : Bool → St → Prop} : OkM Q (cmp .le (.val (.int i)) (.val (.int j)) s) ↔ Q (decide (i ≤ j)) s := by
  have : (!decide (j < i)) = decide (i ≤ j) := by
    by_cases h : j < i
    · have : ¬ i ≤ j := by omega
      simp [h, this]
    · have : i ≤ j := by omega
      simp [h, this]
  show Q (!decide (j < i)) s ↔ _
  rw [this]
theorem q_leT {Q : Bool → St → Prop} : OkM Q (cmp .le (.val (.tup xs)) (.val (.tup ys)) s) ↔ if (D.flat 60 (.tup ys) && D.flat 60 (.tup xs) && D.likeL ys xs) = true then Q (!D.ltL ys xs) s else False := by
  show OkM Q (match (if (D.flat 60 (.tup ys) && D.flat 60 (.tup xs) && D.likeL ys xs) = true then some (D.ltL ys xs) else none) with | some r => Res.ok (!r) s | none => .stuck) ↔ _
  split
  · rename_i h; split at h
    · rename_i h2; cases h; rw [if_pos h2]; exact Iff.rfl
    · cases h
  · rename_i h; split at h
    · cases h
    · rename_i h2; rw [if_neg h2]; exact Iff.rfl
theorem q_ge {Q : Bool → St → Prop} : OkM Q (cmp .ge (.val (.int i)) (.val (.int j)) s) ↔ Q (decide (j ≤ i)) s := by
  have : (!decide (i < j)) = decide (j ≤ i) := by
    by_cases h : i < j
    · have : ¬ j ≤ i := by omega
      simp [h, this]
    · have : j ≤ i := by omega
      simp [h, this]
  show Q (!decide (i < j)) s ↔ _
  rw [this]
theorem q_in {x y : Opd} {Q : Bool → St → Prop} : OkM Q (cmp .isIn x y s) ↔ OkM Q (inO x y s) := Iff.rfl
theorem q_notin {x y : Opd} {Q : Bool → St → Prop} : OkM Q (cmp .notIn x y s) ↔ OkM (fun b s' => Q (!b) s') (inO x y s) := by
  show OkM Q (match inO x y s with | .ok b s' => _ | .exc e s' => _ | .stuck => _) ↔ _
  cases inO x y s <;> exact Iff.rfl
theorem q_trN : truth (.val .non) s = .ok false s := rfl
theorem q_trB : truth (.val (.bl p)) s = .ok p s := rfl
theorem q_trI : truth (.val (.int i)) s = .ok (i != 0) s := rfl
theorem q_trT : truth (.val (.tup ds)) s = .ok (!ds.isEmpty) s := rfl
theorem q_trS : truth (.val (.str a)) s = if a.length ≤ lim then .ok ((a.length : Int) != 0) s else .stuck := rfl
theorem q_asB : asB (.val (.bl p)) s = .ok p s := rfl
-- items
theorem q_subT : subO (.val (.tup ds)) (.val (.int i)) s = match atI ds i with
  | some d => .ok (.val d) s
  | none => .stuck := rfl
theorem q_subR : subO (.val (.ref l)) (.val (.int i)) ⟨sl, hp⟩ = match hp[l]? with
  | some (.lst ds) => (match atI ds i with
    | some d => .ok (.val d) ⟨sl, hp⟩
    | none => .stuck)
  | some (.fro ds) => (match atI ds i with
    | some d => .ok (.val d) ⟨sl, hp⟩
    | none => .stuck)
  | _ => .stuck := by
  show (match seqOf (.val (.ref l)) ⟨sl, hp⟩ with | some ds => _ | none => _) = _
  show (match (match hp[l]? with | some (.lst ds) => some ds | some (.fro ds) => some ds | _ => none) with | some ds => _ | none => _) = _
  cases hp[l]? with
  | none => rfl
  | some n => cases n <;> rfl
theorem q_subO : subO (.own k) (.val (.int i)) ⟨sl, hp⟩ = match nodeOf (.own k) ⟨sl, hp⟩ with
  | some (.lst ds) => (match atI ds i with
    | some d => .ok (.val d) ⟨sl, hp⟩
    | none => .stuck)
  | some (.fro ds) => (match atI ds i with
    | some d => .ok (.val d) ⟨sl, hp⟩
    | none => .stuck)
  | _ => .stuck := by
  show (match seqOf (.own k) ⟨sl, hp⟩ with | some ds => _ | none => _) = _
  show (match (match nodeOf (.own k) ⟨sl, hp⟩ with | some (.lst ds) => some ds | some (.fro ds) => some ds | _ => none) with | some ds => _ | none => _) = _
  cases nodeOf (.own k) ⟨sl, hp⟩ with
  | none => rfl
  | some n => cases n <;> rfl
theorem q_subM : subO (.tmp (.lst ds)) (.val (.int i)) s = match atI ds i with
  | some d => .ok (.val d) s
  | none => .stuck := rfl
theorem q_nodeO : nodeOf (.own k) ⟨sl, hp⟩ = match sl[k]? with
  | some (.own n) => some n
  | some (.val (.ref l)) => hp[l]?
  | _ => none := rfl
theorem q_nodeR : nodeOf (.val (.ref l)) ⟨sl, hp⟩ = hp[l]? := rfl
theorem q_nodeM : nodeOf (.tmp n) s = some n := rfl
theorem q_cutT {lo hi : Option Int} : cutO (.val (.tup ds)) lo hi s = .ok (.val (.tup (cut ds lo hi))) s := rfl
theorem q_cutR {lo hi : Option Int} : cutO (.val (.ref l)) lo hi ⟨sl, hp⟩ = match lstOf (.val (.ref l)) ⟨sl, hp⟩ with
  | some ds => .ok (.tmp (.lst (cut ds lo hi))) ⟨sl, hp⟩
  | none => .stuck := rfl
theorem q_revT : revO (.val (.tup ds)) s = .ok (.val (.tup ds.reverse)) s := rfl
theorem q_intOf : intOf (.val (.int i)) s = .ok (some i) s := rfl
theorem q_lstR : lstOf (.val (.ref l)) ⟨sl, hp⟩ = match hp[l]? with
  | some (.lst ds) => some ds
  | some (.fro ds) => some ds
  | _ => none := rfl
theorem q_lstM : lstOf (.tmp (.lst ds)) s = some ds := rfl
theorem q_lstO : lstOf (.own k) ⟨sl, hp⟩ = match nodeOf (.own k) ⟨sl, hp⟩ with
  | some (.lst ds) => some ds
  | some (.fro ds) => some ds
  | _ => none := rfl
-- builtins
theorem q_lenT : bi .len [.val (.tup ds)] s = .ok (.val (.int ds.length)) s := rfl
theorem q_lenS : bi .len [.val (.str a)] s = if a.length ≤ lim then .ok (.val (.int a.length)) s else .stuck := rfl
theorem q_lenR : bi .len [.val (.ref l)] ⟨sl, hp⟩ = match lstOf (.val (.ref l)) ⟨sl, hp⟩ with
  | some ds => .ok (.val (.int ds.length)) ⟨sl, hp⟩
  | none => .stuck := rfl
theorem q_lenO : bi .len [.own k] ⟨sl, hp⟩ = match lstOf (.own k) ⟨sl, hp⟩ with
  | some ds => .ok (.val (.int ds.length)) ⟨sl, hp⟩
  | none => .stuck := rfl
theorem q_lenM : bi .len [.tmp (.lst ds)] s = .ok (.val (.int ds.length)) s := rfl
theorem q_abs : bi .abs [.val (.int i)] s = .ok (.val (.int (if i < 0 then -i else i))) s := rfl
theorem q_intI : bi .int [.val (.int i)] s = .ok (.val (.int i)) s := rfl
theorem q_intB : bi .int [.val (.bl p)] s = .ok (.val (.int (if p then 1 else 0))) s := rfl
theorem q_allM : bi .all [.tmp (.lst ds)] s = match D.bools ds with
  | some bs => .ok (.val (.bl (bs.all id))) s
  | none => .stuck := rfl
theorem q_anyM : bi .any [.tmp (.lst ds)] s = match D.bools ds with
  | some bs => .ok (.val (.bl (bs.any id))) s
  | none => .stuck := rfl
theorem q_sumM : bi .sum [.tmp (.lst ds)] s = match D.ints ds with
  | some is => .ok (.val (.int is.sum)) s
  | none => .stuck := rfl
theorem q_tupT : bi .tuple [.val (.tup ds)] s = .ok (.val (.tup ds)) s := rfl
theorem q_tupM : bi .tuple [.tmp (.lst ds)] s = .ok (.val (.tup ds)) s := rfl
theorem q_tupO : bi .tuple [.own k] ⟨sl, hp⟩ = match lstOf (.own k) ⟨sl, hp⟩ with
  | some ds => .ok (.val (.tup ds)) ⟨sl, hp⟩
  | none => .stuck := rfl
theorem q_tupR : bi .tuple [.val (.ref l)] ⟨sl, hp⟩ = match lstOf (.val (.ref l)) ⟨sl, hp⟩ with
  | some ds => .ok (.val (.tup ds)) ⟨sl, hp⟩
  | none => .stuck := rfl
theorem q_listT : bi .list [.val (.tup ds)] s = .ok (.tmp (.lst ds)) s := rfl
theorem q_listM : bi .list [.tmp (.lst ds)] s = .ok (.tmp (.lst ds)) s := rfl
theorem q_listR : bi .list [.val (.ref l)] ⟨sl, hp⟩ = match lstOf (.val (.ref l)) ⟨sl, hp⟩ with
  | some ds => .ok (.tmp (.lst ds)) ⟨sl, hp⟩
  | none => .stuck := rfl
theorem q_listO : bi .list [.own k] ⟨sl, hp⟩ = match lstOf (.own k) ⟨sl, hp⟩ with
  | some ds => .ok (.tmp (.lst ds)) ⟨sl, hp⟩
  | none => .stuck := rfl
-- isinstance
theorem q_isi {ts : List Ty} {x : Opd} : isi ts x s = match tyOf x s with
  | some t => .ok (.val (.bl (ts.any t.below))) s
  | none => .stuck := rfl
theorem q_tyN : tyOf (.val .non) s = some .non := rfl
theorem q_tyB : tyOf (.val (.bl p)) s = some .bool := rfl
theorem q_tyI : tyOf (.val (.int i)) s = some .int := rfl
theorem q_tyS : tyOf (.val (.str a)) s = some .str := rfl
theorem q_tyT : tyOf (.val (.tup ds)) s = some .tuple := rfl
theorem q_tyR : tyOf (.val (.ref l)) ⟨sl, hp⟩ = match hp[l]? with
  | some (.lst _) => some .list
  | some (.fro _) => some .list
  | _ => none := rfl
-- methods
theorem q_metOk {m : Me} {x : Opd} : metOk m x ⟨sl, hp⟩ = if m.isL = true then (if (lstOf x ⟨sl, hp⟩).isSome = true then .ok () ⟨sl, hp⟩ else .stuck) else .stuck := rfl
theorem q_append {x : Opd} : meth .append x [d] ⟨sl, hp⟩ = match nodeOf x ⟨sl, hp⟩ with
  | some (.lst xs) => if xs.length < lim then (match setNode x (.lst (xs ++ [d])) ⟨sl, hp⟩ with
    | .ok _ s' => .ok (.val .non) s'
    | .exc e s' => .exc e s'
    | .stuck => .stuck) else .stuck
  | _ => .stuck := rfl
theorem q_pop {x : Opd} : meth .pop x [] ⟨sl, hp⟩ = match nodeOf x ⟨sl, hp⟩ with
  | some (.lst xs) => (match xs[xs.length - 1]? with
    | some d => (match setNode x (.lst xs.dropLast) ⟨sl, hp⟩ with
      | .ok _ s' => .ok (.val d) s'
      | .exc e s' => .exc e s'
      | .stuck => .stuck)
    | none => .stuck)
  | _ => .stuck := rfl
theorem q_popI {x : Opd} : meth .pop x [.int i] ⟨sl, hp⟩ = match nodeOf x ⟨sl, hp⟩ with
  | some (.lst xs) => (match ixN xs.length i with
    | some k => (match xs[k]? with
      | some d => (match setNode x (.lst (xs.eraseIdx k)) ⟨sl, hp⟩ with
        | .ok _ s' => .ok (.val d) s'
        | .exc e s' => .exc e s'
        | .stuck => .stuck)
      | none => .stuck)
    | none => .stuck)
  | _ => .stuck := rfl
theorem q_setO : setNode (.own k) n ⟨sl, hp⟩ = match sl[k]? with
  | some (.own _) => .ok () ⟨sl.set k (.own n), hp⟩
  | some (.val (.ref l)) => .ok () ⟨sl, hp.set l n⟩
  | _ => .stuck := rfl
theorem q_setR : setNode (.val (.ref l)) n ⟨sl, hp⟩ = .ok () ⟨sl, hp.set l n⟩ := rfl
theorem q_putO {x : Opd} : putO x (.int i) d ⟨sl, hp⟩ = match nodeOf x ⟨sl, hp⟩ with
  | some (.lst xs) => (match ixN xs.length i with
    | some j => setNode x (.lst (xs.set j d)) ⟨sl, hp⟩
    | none => .stuck)
  | _ => .stuck := by
  show (match nodeOf x ⟨sl, hp⟩ with | some (.lst xs) => _ | _ => _) = _
  cases nodeOf x ⟨sl, hp⟩ with
  | none => rfl
  | some n => cases n <;> rfl
-- walks
theorem q_walkT : walkO (.val (.tup ds)) s = .ok ⟨ds, none⟩ s := rfl
theorem q_walkM : walkO (.tmp (.lst ds)) s = .ok ⟨ds, some (.tmp (.lst ds), ds)⟩ s := rfl
theorem q_walkR : walkO (.val (.ref l)) ⟨sl, hp⟩ = match lstOf (.val (.ref l)) ⟨sl, hp⟩ with
  | some ds => .ok ⟨ds, some (.val (.ref l), ds)⟩ ⟨sl, hp⟩
  | none => .stuck := rfl
theorem q_walkO : walkO (.own k) ⟨sl, hp⟩ = match lstOf (.own k) ⟨sl, hp⟩ with
  | some ds => .ok ⟨ds, some (.own k, ds)⟩ ⟨sl, hp⟩
  | none => .stuck := rfl
theorem q_setN : settle ⟨ds, none⟩ s = .ok ⟨ds, none⟩ s := rfl
theorem q_setM : settle ⟨ds, some (.tmp n, es)⟩ s = .ok ⟨ds, some (.tmp n, es)⟩ s := rfl
theorem q_setV : settle ⟨ds, some (.val d, es)⟩ s = .ok ⟨ds, some (.val d, es)⟩ s := rfl
theorem q_setlO : settle ⟨ds, some (.own k, es)⟩ ⟨sl, hp⟩ = match sl[k]? with
  | some (.own n) => .ok ⟨ds, some (.val (.ref hp.length), es)⟩ ⟨sl.set k (.val (.ref hp.length)), hp ++ [n]⟩
  | some (.val d) => .ok ⟨ds, some (.val d, es)⟩ ⟨sl, hp⟩
  | _ => .stuck := by
  unfold settle toD
  simp only
  cases sl[k]? with
  | none => rfl
  | some x => cases x <;> rfl
theorem q_rng1 : mRng [.val (.int j)] s = if small j then .ok ⟨upD 0 j, none⟩ s else .stuck := rfl
theorem q_rng2 : mRng [.val (.int i), .val (.int j)] s = if small i ∧ small j then .ok ⟨upD i j, none⟩ s else .stuck := rfl
theorem q_settV : (Opd.val d).settled = true := rfl
theorem q_settT : (Opd.tmp n).settled = true := rfl
theorem q_settO : (Opd.own k).settled = false := rfl
theorem q_opdV : (RV.val d).opd = .val d := rfl
theorem q_opdN : (RV.node n).opd = .tmp n := rfl
theorem q_addO : addO k (.val (.int i)) (.val (.int j)) = stO k (.val (.int (i + j))) := rfl
theorem q_appL : Me.append.isL = true := rfl
theorem q_popL : Me.pop.isL = true := rfl
theorem q_sortT : bi .sorted [.val (.tup ds)] s = if (D.flats 60 ds && D.likes ds) = true ∧ ds.length ≤ lim then .ok (.tmp (.lst (D.srt ds))) s else .stuck := rfl
theorem q_sortM : bi .sorted [.tmp (.lst ds)] s = if (D.flats 60 ds && D.likes ds) = true ∧ ds.length ≤ lim then .ok (.tmp (.lst (D.srt ds))) s else .stuck := rfl
theorem q_sortR : bi .sorted [.val (.ref l)] ⟨sl, hp⟩ = match lstOf (.val (.ref l)) ⟨sl, hp⟩ with
  | some ds => if (D.flats 60 ds && D.likes ds) = true ∧ ds.length ≤ lim then .ok (.tmp (.lst (D.srt ds))) ⟨sl, hp⟩ else .stuck
  | none => .stuck := rfl
theorem q_sortO : bi .sorted [.own k] ⟨sl, hp⟩ = match lstOf (.own k) ⟨sl, hp⟩ with
  | some ds => if (D.flats 60 ds && D.likes ds) = true ∧ ds.length ≤ lim then .ok (.tmp (.lst (D.srt ds))) ⟨sl, hp⟩ else .stuck
  | none => .stuck := rfl
theorem q_sset : ssetO (.val (.tup ds)) s = match D.ints ds with
  | some is => if is.length < 64 then .ok (.tmp (.lst (D.srt (D.once ds)))) s else .stuck
  | none => .stuck := rfl
theorem q_max : bi .max [.val (.int i), .val (.int j)] s = .ok (.val (.int (if j > i then j else i))) s := rfl
theorem q_min : bi .min [.val (.int i), .val (.int j)] s = .ok (.val (.int (if j < i then j else i))) s := rfl
theorem q_mulT : op2 .mul (.val (.tup ds)) (.val (.int i)) s = if ds ≠ [] ∧ 0 ≤ i ∧ i ≤ 1000 ∧ ds.length ≤ 1000 then .ok (.val (.tup (List.replicate i.toNat ds).flatten)) s else .stuck := rfl
theorem q_cutO {lo hi : Option Int} : cutO (.own k) lo hi ⟨sl, hp⟩ = match lstOf (.own k) ⟨sl, hp⟩ with
  | some ds => .ok (.tmp (.lst (cut ds lo hi))) ⟨sl, hp⟩
  | none => .stuck := rfl
theorem q_cutM {lo hi : Option Int} : cutO (.tmp (.lst ds)) lo hi s = .ok (.tmp (.lst (cut ds lo hi))) s := rfl
theorem q_enT : enumO (.val (.tup ds)) s = .ok ⟨enF 0 ds, none⟩ s := rfl
theorem q_enM : enumO (.tmp (.lst ds)) s = .ok ⟨enF 0 ds, some (.tmp (.lst ds), ds)⟩ s := rfl
theorem q_inIT : inO (.val (.int i)) (.val (.tup ds)) s = if (D.flat 60 (.int i) && D.flats 60 ds) = true then .ok (D.anyEq (.int i) ds) s else .stuck := rfl
theorem q_inTT : inO (.val (.tup xs)) (.val (.tup ds)) s = if (D.flat 60 (.tup xs) && D.flats 60 ds) = true then .ok (D.anyEq (.tup xs) ds) s else .stuck := rfl
theorem q_inIR : inO (.val (.int i)) (.val (.ref l)) ⟨sl, hp⟩ = match hp[l]? with
  | some (.lst ds) => if (D.flat 60 (.int i) && D.flats 60 ds) = true then .ok (D.anyEq (.int i) ds) ⟨sl, hp⟩ else .stuck
  | some (.fro ds) => if (D.flat 60 (.int i) && D.flats 60 ds) = true then .ok (D.anyEq (.int i) ds) ⟨sl, hp⟩ else .stuck
  | _ => .stuck := by
  show (match (match hp[l]? with | some (.lst ds) => some ds | some (.fro ds) => some ds | _ => none) with | some ds => _ | none => _) = _
  cases hp[l]? with
  | none => rfl
  | some n => cases n <;> rfl
theorem q_eqMM : eqO (.tmp (.lst xs)) (.tmp (.lst ys)) s = if (D.flats 60 xs && D.flats 60 ys) = true then .ok (D.eqs xs ys) s else .stuck := rfl
theorem q_extend {x : Opd} : meth .extend x [.ref l] ⟨sl, hp⟩ = match nodeOf x ⟨sl, hp⟩ with
  | some (.lst xs) => (match hp[l]? with
    | some (.lst zs) => if xs.length + zs.length ≤ lim then (match setNode x (.lst (xs ++ zs)) ⟨sl, hp⟩ with
      | .ok _ s' => .ok (.val .non) s'
      | .exc e s' => .exc e s'
      | .stuck => .stuck) else .stuck
    | _ => .stuck)
  | _ => .stuck := rfl
theorem q_insert {x : Opd} : meth .insert x [.int i, d] ⟨sl, hp⟩ = match nodeOf x ⟨sl, hp⟩ with
  | some (.lst xs) => if xs.length < lim ∧ 0 ≤ i ∧ i < 2 ^ 63 then (match setNode x (.lst (xs.take i.toNat ++ [d] ++ xs.drop i.toNat)) ⟨sl, hp⟩ with
    | .ok _ s' => .ok (.val .non) s'
    | .exc e s' => .exc e s'
    | .stuck => .stuck) else .stuck
  | _ => .stuck := rfl
theorem q_extL : Me.extend.isL = true := rfl
theorem q_insL : Me.insert.isL = true := rfl
theorem q_allO : bi .all [.own k] ⟨sl, hp⟩ = match (lstOf (.own k) ⟨sl, hp⟩).bind D.bools with
  | some bs => .ok (.val (.bl (bs.all id))) ⟨sl, hp⟩
  | none => .stuck := rfl
theorem q_allR : bi .all [.val (.ref l)] ⟨sl, hp⟩ = match (lstOf (.val (.ref l)) ⟨sl, hp⟩).bind D.bools with
  | some bs => .ok (.val (.bl (bs.all id))) ⟨sl, hp⟩
  | none => .stuck := rfl
theorem q_anyO : bi .any [.own k] ⟨sl, hp⟩ = match (lstOf (.own k) ⟨sl, hp⟩).bind D.bools with
  | some bs => .ok (.val (.bl (bs.any id))) ⟨sl, hp⟩
  | none => .stuck := rfl
theorem q_anyR : bi .any [.val (.ref l)] ⟨sl, hp⟩ = match (lstOf (.val (.ref l)) ⟨sl, hp⟩).bind D.bools with
  | some bs => .ok (.val (.bl (bs.any id))) ⟨sl, hp⟩
  | none => .stuck := rfl
theorem q_sumO : bi .sum [.own k] ⟨sl, hp⟩ = match (lstOf (.own k) ⟨sl, hp⟩).bind D.ints with
  | some bs => .ok (.val (.int bs.sum)) ⟨sl, hp⟩
  | none => .stuck := rfl
theorem q_sumR : bi .sum [.val (.ref l)] ⟨sl, hp⟩ = match (lstOf (.val (.ref l)) ⟨sl, hp⟩).bind D.ints with
  | some bs => .ok (.val (.int bs.sum)) ⟨sl, hp⟩
  | none => .stuck := rfl
theorem ok_enumO {x : Opd} {Q : Walk → St → Prop} : Ok (enumO x) s Q ↔ OkM Q (enumO x s) := ok_iff
theorem ok_ssetO {x : Opd} {Q : Opd → St → Prop} : Ok (ssetO x) s Q ↔ OkM Q (ssetO x s) := ok_iff
theorem okM_bool {Q : Bool → St → Prop} {b : Bool} : OkM Q (.ok b s) ↔ Q b s := Iff.rfl
end
end Y

set_option linter.all false
set_option maxRecDepth 100000
set_option Elab.async false
set_option autoImplicit false
set_option maxHeartbeats 0
namespace LK
open PySem PySem.Spec PyProof.Rows L2 Y
def top (i : Nat) : Stmt := PySem.Challenge.pw_somemore_k06_all_worlds.main.body.getD i (.Pass ⟨0, 0, 0, 0⟩)
def fns0 : List FnI := []
def fns1 : List FnI := ⟨"size_of", 169, ["world", "lot"]⟩ :: fns0
def fns2 : List FnI := ⟨"holds", 64, ["world", "sentence"]⟩ :: fns1
def fns3 : List FnI := ⟨"broken", 25, ["book", "world"]⟩ :: fns2
def fns4 : List FnI := ⟨"all_things", 5, ["many"]⟩ :: fns3
def fns5 : List FnI := ⟨"sorted_worlds", 175, ["things", "many"]⟩ :: fns4
def fns6 : List FnI := ⟨"all_worlds", 6, ["book", "many"]⟩ :: fns5
def fns7 : List FnI := ⟨"count_worlds", 43, ["book", "many"]⟩ :: fns6
def fns8 : List FnI := ⟨"_law_jar", 1146, ["script"]⟩ :: fns7
def fns9 : List FnI := ⟨"_law_take", 1312, ["jar", "many"]⟩ :: fns8
def fns10 : List FnI := ⟨"_law_same", 1269, ["told", "due"]⟩ :: fns9
def fns11 : List FnI := ⟨"_law_sentence", 1274, ["jar", "many", "most"]⟩ :: fns10
def fns12 : List FnI := ⟨"_law_book", 1022, ["jar", "many", "count", "most"]⟩ :: fns11
def fns13 : List FnI := ⟨"_law_size", 1290, ["world", "lot"]⟩ :: fns12
def fns14 : List FnI := ⟨"_law_holds", 1117, ["world", "sentence"]⟩ :: fns13
def fns15 : List FnI := ⟨"_law_is_good", 1125, ["book", "world"]⟩ :: fns14
def fns16 : List FnI := ⟨"_law_worlds", 1366, ["many", "most"]⟩ :: fns15
def fns17 : List FnI := ⟨"_law_asked", 1014, ["jar", "book", "most"]⟩ :: fns16
def fns18 : List FnI := ⟨"law", 1373, ["script"]⟩ :: fns17
def kwb : List KwI := [⟨"all_worlds", 0, ["many", "book"], [1, 0]⟩,
  ⟨"count_worlds", 0, ["many", "book"], [1, 0]⟩]
def blts : List Str := ["abs", "all", "any", "bool", "enumerate", "int", "isinstance", "len", "list", "range", "sorted", "str", "tuple"]
def N0 : List Str := ["world", "lot", "thing"]
/-- size_of -/
def ir0 : ISs := (.cons (.ret (.bi .len (.cons (.lc [2] (.var 2) (.name 2) (.var 0) (.cons (.cmp .isIn (.var 1) (.var 2)) .nil)) .nil)))
  .nil)
theorem c0 : compSs 200 200 ⟨N0, defScope (top 1), fns0, kwb, [], blts, true⟩ (defBody (top 1)) = some ir0 := by kernel_rfl
theorem s0 : FnScope N0 ["world", "lot"] (defScope (top 1)) := ⟨rfl, rfl, rfl, by decide +kernel, rfl, by decide +kernel, by decide +kernel⟩
def N1 : List Str := ["world", "sentence", "_", "one", "other", "both", "thing"]
/-- holds -/
def ir1 : ISs := (.cons (.ife (.cmp .eq (.sub (.var 1) (.int 0)) (.str "least")) (.cons (.ret (.cmp .ge (.call 169 (.cons (.var 0) (.cons (.sub (.var 1) (.int 1)) .nil))) (.sub (.var 1) (.int 2))))
  .nil) .nil)
  (.cons (.asg (.tup [(.name 2), (.name 3), (.name 4)]) (.cut (.var 1) .nil (.cons (.int 3) .nil)))
  (.cons (.ife (.cmp .eq (.sub (.var 1) (.int 0)) (.str "more")) (.cons (.ret (.cmp .ge (.call 169 (.cons (.var 0) (.cons (.var 3) .nil))) (.bin .add (.call 169 (.cons (.var 0) (.cons (.var 4) .nil))) (.sub (.var 1) (.int 3)))))
  .nil) .nil)
  (.cons (.set 5 (.lc [6] (.cmp .isIn (.var 4) (.var 6)) (.name 6) (.var 0) (.cons (.cmp .isIn (.var 3) (.var 6)) .nil)))
  (.cons (.ret (.ife (.cmp .eq (.sub (.var 1) (.int 0)) (.str "all")) (.bi .all (.cons (.var 5) .nil)) (.bi .any (.cons (.var 5) .nil))))
  .nil)))))
theorem c1 : compSs 200 200 ⟨N1, defScope (top 2), fns1, kwb, [], blts, true⟩ (defBody (top 2)) = some ir1 := by kernel_rfl
theorem s1 : FnScope N1 ["world", "sentence"] (defScope (top 2)) := ⟨rfl, rfl, rfl, by decide +kernel, rfl, by decide +kernel, by decide +kernel⟩
def N2 : List Str := ["book", "world", "number", "sentence"]
/-- broken -/
def ir2 : ISs := (.cons (.ret (.bi .tuple (.cons (.lc [2, 3] (.var 2) (.tup [(.name 2), (.name 3)]) (.enum (.sub (.var 0) (.int 1))) (.cons (.not (.call 64 (.cons (.var 1) (.cons (.var 3) .nil)))) .nil)) .nil)))
  .nil)
theorem c2 : compSs 200 200 ⟨N2, defScope (top 3), fns2, kwb, [], blts, true⟩ (defBody (top 3)) = some ir2 := by kernel_rfl
theorem s2 : FnScope N2 ["book", "world"] (defScope (top 3)) := ⟨rfl, rfl, rfl, by decide +kernel, rfl, by decide +kernel, by decide +kernel⟩
def N3 : List Str := ["many", "things", "lot", "thing"]
/-- all_things -/
def ir3 : ISs := (.cons (.set 1 (.lst (.cons (.tup .nil) .nil)))
  (.cons (.fo (.name 2) (.rng (.cons (.var 0) .nil)) (.cons (.set 1 (.bin .add (.var 1) (.lc [3] (.bin .add (.var 3) (.tup (.cons (.var 2) .nil))) (.name 3) (.var 1) .nil)))
  .nil))
  (.cons (.ret (.bi .sorted (.cons (.var 1) .nil)))
  .nil)))
theorem c3 : compSs 200 200 ⟨N3, defScope (top 5), fns3, kwb, [], blts, true⟩ (defBody (top 5)) = some ir3 := by kernel_rfl
theorem s3 : FnScope N3 ["many"] (defScope (top 5)) := ⟨rfl, rfl, rfl, by decide +kernel, rfl, by decide +kernel, by decide +kernel⟩
def N4 : List Str := ["things", "many", "found", "line", "size", "world", "thing"]
/-- sorted_worlds -/
def ir4 : ISs := (.cons (.set 2 (.lst (.cons (.tup .nil) .nil)))
  (.cons (.set 3 (.lst (.cons (.tup .nil) .nil)))
  (.cons (.fo (.name 4) (.rng (.cons (.var 1) .nil)) (.cons (.set 3 (.lc2 [5, 6] [6] (.bin .add (.var 5) (.tup (.cons (.var 6) .nil))) (.name 5) (.var 3) .nil (.name 6) (.var 0) (.cons (.or (.not (.var 5)) (.cmp .le (.sub (.var 5) (.neg (.int 1))) (.var 6))) .nil)))
  (.cons (.set 2 (.bin .add (.var 2) (.var 3)))
  .nil)))
  (.cons (.ret (.var 2))
  .nil))))
theorem c4 : compSs 200 200 ⟨N4, defScope (top 6), fns4, kwb, [], blts, true⟩ (defBody (top 6)) = some ir4 := by kernel_rfl
theorem s4 : FnScope N4 ["things", "many"] (defScope (top 6)) := ⟨rfl, rfl, rfl, by decide +kernel, rfl, by decide +kernel, by decide +kernel⟩
def N5 : List Str := ["book", "many", "worlds", "world"]
/-- all_worlds -/
def ir5 : ISs := (.cons (.set 2 (.call 175 (.cons (.call 5 (.cons (.bi .len (.cons (.sub (.var 0) (.int 0)) .nil)) .nil)) (.cons (.var 1) .nil))))
  (.cons (.ret (.bi .tuple (.cons (.bi .sorted (.cons (.lc [3] (.var 3) (.name 3) (.var 2) (.cons (.not (.call 25 (.cons (.var 0) (.cons (.var 3) .nil)))) .nil)) .nil)) .nil)))
  .nil))
theorem c5 : compSs 200 200 ⟨N5, defScope (top 7), fns5, kwb, [], blts, true⟩ (defBody (top 7)) = some ir5 := by kernel_rfl
theorem s5 : FnScope N5 ["book", "many"] (defScope (top 7)) := ⟨rfl, rfl, rfl, by decide +kernel, rfl, by decide +kernel, by decide +kernel⟩
def N6 : List Str := ["book", "many"]
/-- count_worlds -/
def ir6 : ISs := (.cons (.ret (.bi .len (.cons (.call 6 (.cons (.var 0) (.cons (.var 1) .nil))) .nil)))
  .nil)
theorem c6 : compSs 200 200 ⟨N6, defScope (top 8), fns6, kwb, [], blts, true⟩ (defBody (top 8)) = some ir6 := by kernel_rfl
theorem s6 : FnScope N6 ["book", "many"] (defScope (top 8)) := ⟨rfl, rfl, rfl, by decide +kernel, rfl, by decide +kernel, by decide +kernel⟩
def N7 : List Str := ["script", "mixed", "deep", "cell", "size"]
/-- _law_jar -/
def ir7 : ISs := (.cons (.set 1 (.int 8443))
  (.cons (.set 2 (.lst .nil))
  (.cons (.fo (.name 3) (.cut (.var 0) .nil (.cons (.int 61) .nil)) (.cons (.set 4 (.bin .mod (.bi .abs (.cons (.bi .int (.cons (.var 3) .nil)) .nil)) (.bin .shl (.int 1) (.int 2000))))
  (.cons (.set 1 (.bin .mod (.bi .int (.cons (.bin .add (.bin .add (.bin .mul (.var 1) (.int 40692)) (.bin .mod (.bi .int (.cons (.var 4) .nil)) (.int 2147483629))) (.int 123)) .nil)) (.int 2147483629)))
  (.cons (.ife (.cmp .ge (.var 4) (.bin .pow (.int 10) (.int 18))) (.cons (.expr (.meth .append (.var 2) (.cons (.var 4) .nil)))
  .nil) .nil)
  .nil))))
  (.cons (.ret (.lst (.cons (.var 2) (.cons (.var 1) .nil))))
  .nil))))
theorem c7 : compSs 200 200 ⟨N7, defScope (top 10), fns7, kwb, [], blts, true⟩ (defBody (top 10)) = some ir7 := by kernel_rfl
theorem s7 : FnScope N7 ["script"] (defScope (top 10)) := ⟨rfl, rfl, rfl, by decide +kernel, rfl, by decide +kernel, by decide +kernel⟩
def N8 : List Str := ["jar", "many", "digit"]
/-- _law_take -/
def ir8 : ISs := (.cons (.ife (.cmp .gt (.bi .len (.cons (.sub (.var 0) (.int 0)) .nil)) (.int 0)) (.cons (.set 2 (.bin .mod (.bi .int (.cons (.sub (.sub (.var 0) (.int 0)) (.int 0)) .nil)) (.var 1)))
  (.cons (.put (.sub (.var 0) (.int 0)) (.int 0) (.bin .fdiv (.sub (.sub (.var 0) (.int 0)) (.int 0)) (.var 1)))
  (.cons (.ife (.cmp .eq (.sub (.sub (.var 0) (.int 0)) (.int 0)) (.int 0)) (.cons (.expr (.meth .pop (.sub (.var 0) (.int 0)) (.cons (.int 0) .nil)))
  .nil) .nil)
  (.cons (.ret (.var 2))
  .nil)))) .nil)
  (.cons (.put (.var 0) (.int 1) (.bin .mod (.bi .int (.cons (.bin .add (.bin .mul (.sub (.var 0) (.int 1)) (.int 48271)) (.int 2909)) .nil)) (.int 2147483587)))
  (.cons (.ret (.bin .mod (.bi .int (.cons (.bin .fdiv (.sub (.var 0) (.int 1)) (.int 67)) .nil)) (.var 1)))
  .nil)))
theorem c8 : compSs 200 200 ⟨N8, defScope (top 11), fns8, kwb, [], blts, true⟩ (defBody (top 11)) = some ir8 := by kernel_rfl
theorem s8 : FnScope N8 ["jar", "many"] (defScope (top 11)) := ⟨rfl, rfl, rfl, by decide +kernel, rfl, by decide +kernel, by decide +kernel⟩
def N9 : List Str := ["told", "due", "waiting", "one", "other", "at"]
/-- _law_same -/
def ir9 : ISs := (.cons (.set 2 (.lst (.cons (.tup (.cons (.var 0) (.cons (.var 1) .nil))) .nil)))
  (.cons (.whl (.cmp .gt (.bi .len (.cons (.var 2) .nil)) (.int 0)) (.cons (.asg (.tup [(.name 3), (.name 4)]) (.meth .pop (.var 2) .nil))
  (.cons (.ife (.isi [.tuple, .list] (.var 4)) (.cons (.ife (.or (.and (.isi [.tuple] (.var 4)) (.not (.isi [.tuple] (.var 3)))) (.and (.isi [.list] (.var 4)) (.not (.isi [.list] (.var 3))))) (.cons (.ret (.bl false))
  .nil) .nil)
  (.cons (.ife (.not (.cmp .eq (.bi .len (.cons (.var 3) .nil)) (.bi .len (.cons (.var 4) .nil)))) (.cons (.ret (.bl false))
  .nil) .nil)
  (.cons (.fo (.name 5) (.rng (.cons (.bi .len (.cons (.var 4) .nil)) .nil)) (.cons (.expr (.meth .append (.var 2) (.cons (.tup (.cons (.sub (.var 3) (.var 5)) (.cons (.sub (.var 4) (.var 5)) .nil))) .nil)))
  .nil))
  .nil))) (.cons (.ife (.cmp .isN (.var 4) .non) (.cons (.ife (.cmp .notN (.var 3) .non) (.cons (.ret (.bl false))
  .nil) .nil)
  .nil) (.cons (.ife (.isi [.bool] (.var 4)) (.cons (.ife (.or (.not (.isi [.bool] (.var 3))) (.not (.cmp .eq (.var 3) (.var 4)))) (.cons (.ret (.bl false))
  .nil) .nil)
  .nil) (.cons (.ife (.isi [.str] (.var 4)) (.cons (.ife (.or (.not (.isi [.str] (.var 3))) (.not (.cmp .eq (.var 3) (.var 4)))) (.cons (.ret (.bl false))
  .nil) .nil)
  .nil) (.cons (.ife (.or (.not (.isi [.int] (.var 3))) (.or (.isi [.bool] (.var 3)) (.not (.cmp .eq (.var 3) (.var 4))))) (.cons (.ret (.bl false))
  .nil) .nil)
  .nil))
  .nil))
  .nil))
  .nil))
  .nil)))
  (.cons (.ret (.bl true))
  .nil)))
theorem c9 : compSs 200 200 ⟨N9, defScope (top 12), fns9, kwb, [], blts, true⟩ (defBody (top 12)) = some ir9 := by kernel_rfl
theorem s9 : FnScope N9 ["told", "due"] (defScope (top 12)) := ⟨rfl, rfl, rfl, by decide +kernel, rfl, by decide +kernel, by decide +kernel⟩
def N10 : List Str := ["jar", "many", "most", "kind", "one", "other", "number"]
/-- _law_sentence -/
def ir10 : ISs := (.cons (.set 3 (.sub (.tup (.cons (.str "all") (.cons (.str "all") (.cons (.str "some") (.cons (.str "least") (.cons (.str "more") (.cons (.str "more") .nil))))))) (.call 1312 (.cons (.var 0) (.cons (.int 6) .nil)))))
  (.cons (.par 4 5 (.call 1312 (.cons (.var 0) (.cons (.var 1) .nil))) (.call 1312 (.cons (.var 0) (.cons (.var 1) .nil))))
  (.cons (.set 6 (.sub (.tup (.cons (.int 0) (.cons (.int 1) (.cons (.var 2) (.cons (.call 1312 (.cons (.var 0) (.cons (.bin .add (.var 2) (.int 1)) .nil))) .nil))))) (.call 1312 (.cons (.var 0) (.cons (.int 4) .nil)))))
  (.cons (.ife (.cmp .eq (.var 3) (.str "least")) (.cons (.ret (.tup (.cons (.var 3) (.cons (.var 4) (.cons (.var 6) .nil)))))
  .nil) .nil)
  (.cons (.ret (.ife (.cmp .ne (.var 3) (.str "more")) (.tup (.cons (.var 3) (.cons (.var 4) (.cons (.var 5) .nil)))) (.tup (.cons (.var 3) (.cons (.var 4) (.cons (.var 5) (.cons (.var 6) .nil)))))))
  .nil)))))
theorem c10 : compSs 200 200 ⟨N10, defScope (top 13), fns10, kwb, [], blts, true⟩ (defBody (top 13)) = some ir10 := by kernel_rfl
theorem s10 : FnScope N10 ["jar", "many", "most"] (defScope (top 13)) := ⟨rfl, rfl, rfl, by decide +kernel, rfl, by decide +kernel, by decide +kernel⟩
def N11 : List Str := ["jar", "many", "count", "most", "names", "turn"]
/-- _law_book -/
def ir11 : ISs := (.cons (.set 4 (.cut (.tup (.cons (.str "a") (.cons (.str "cats") (.cons (.str "b2") (.cons (.str "pets") (.cons (.str "dogs") (.cons (.str "x") (.cons (.str "abcdefgh") (.cons (.str "m1") .nil))))))))) .nil (.cons (.var 1) .nil)))
  (.cons (.ret (.tup (.cons (.var 4) (.cons (.bi .tuple (.cons (.lc [5] (.call 1274 (.cons (.var 0) (.cons (.var 1) (.cons (.var 3) .nil)))) (.name 5) (.rng (.cons (.var 2) .nil)) .nil) .nil)) .nil))))
  .nil))
theorem c11 : compSs 200 200 ⟨N11, defScope (top 14), fns11, kwb, [], blts, true⟩ (defBody (top 14)) = some ir11 := by kernel_rfl
theorem s11 : FnScope N11 ["jar", "many", "count", "most"] (defScope (top 14)) := ⟨rfl, rfl, rfl, by decide +kernel, rfl, by decide +kernel, by decide +kernel⟩
def N12 : List Str := ["world", "lot", "thing"]
/-- _law_size -/
def ir12 : ISs := (.cons (.ret (.bi .len (.cons (.lc [2] (.var 2) (.name 2) (.var 0) (.cons (.cmp .isIn (.var 1) (.var 2)) .nil)) .nil)))
  .nil)
theorem c12 : compSs 200 200 ⟨N12, defScope (top 15), fns12, kwb, [], blts, true⟩ (defBody (top 15)) = some ir12 := by kernel_rfl
theorem s12 : FnScope N12 ["world", "lot"] (defScope (top 15)) := ⟨rfl, rfl, rfl, by decide +kernel, rfl, by decide +kernel, by decide +kernel⟩
def N13 : List Str := ["world", "sentence", "kind", "one", "thing"]
/-- _law_holds -/
def ir13 : ISs := (.cons (.asg (.tup [(.name 2), (.name 3)]) (.cut (.var 1) .nil (.cons (.int 2) .nil)))
  (.cons (.ife (.cmp .eq (.var 2) (.str "all")) (.cons (.ret (.cmp .eq (.bi .len (.cons (.lc [4] (.var 4) (.name 4) (.var 0) (.cons (.and (.cmp .isIn (.var 3) (.var 4)) (.cmp .notIn (.sub (.var 1) (.int 2)) (.var 4))) .nil)) .nil)) (.int 0)))
  .nil) .nil)
  (.cons (.ife (.cmp .eq (.var 2) (.str "some")) (.cons (.ret (.cmp .gt (.bi .len (.cons (.lc [4] (.var 4) (.name 4) (.var 0) (.cons (.and (.cmp .isIn (.var 3) (.var 4)) (.cmp .isIn (.sub (.var 1) (.int 2)) (.var 4))) .nil)) .nil)) (.int 0)))
  .nil) .nil)
  (.cons (.ife (.cmp .eq (.var 2) (.str "least")) (.cons (.ret (.cmp .ge (.call 1290 (.cons (.var 0) (.cons (.var 3) .nil))) (.sub (.var 1) (.int 2))))
  .nil) .nil)
  (.cons (.ret (.cmp .ge (.call 1290 (.cons (.var 0) (.cons (.var 3) .nil))) (.bin .add (.call 1290 (.cons (.var 0) (.cons (.sub (.var 1) (.int 2)) .nil))) (.sub (.var 1) (.int 3)))))
  .nil)))))
theorem c13 : compSs 200 200 ⟨N13, defScope (top 16), fns13, kwb, [], blts, true⟩ (defBody (top 16)) = some ir13 := by kernel_rfl
theorem s13 : FnScope N13 ["world", "sentence"] (defScope (top 16)) := ⟨rfl, rfl, rfl, by decide +kernel, rfl, by decide +kernel, by decide +kernel⟩
def N14 : List Str := ["book", "world", "sentence"]
/-- _law_is_good -/
def ir14 : ISs := (.cons (.ret (.cmp .eq (.bi .len (.cons (.lc [2] (.var 2) (.name 2) (.sub (.var 0) (.int 1)) (.cons (.not (.call 1117 (.cons (.var 1) (.cons (.var 2) .nil)))) .nil)) .nil)) (.int 0)))
  .nil)
theorem c14 : compSs 200 200 ⟨N14, defScope (top 17), fns14, kwb, [], blts, true⟩ (defBody (top 17)) = some ir14 := by kernel_rfl
theorem s14 : FnScope N14 ["book", "world"] (defScope (top 17)) := ⟨rfl, rfl, rfl, by decide +kernel, rfl, by decide +kernel, by decide +kernel⟩
def N15 : List Str := ["many", "most", "kinds", "lot", "kind", "rows", "found", "turn", "longer", "world", "first", "at"]
/-- _law_worlds -/
def ir15 : ISs := (.cons (.set 2 (.lst (.cons (.tup .nil) .nil)))
  (.cons (.fo (.name 3) (.rng (.cons (.var 0) .nil)) (.cons (.set 2 (.bin .add (.var 2) (.lc [4] (.bin .add (.var 4) (.tup (.cons (.var 3) .nil))) (.name 4) (.var 2) .nil)))
  .nil))
  (.cons (.set 2 (.bi .sorted (.cons (.var 2) .nil)))
  (.cons (.set 5 (.lst (.cons (.tup (.cons (.tup .nil) (.cons (.int 0) .nil))) .nil)))
  (.cons (.set 6 (.lst (.cons (.tup .nil) .nil)))
  (.cons (.fo (.name 7) (.rng (.cons (.var 1) .nil)) (.cons (.set 8 (.lst .nil))
  (.cons (.fo (.tup [(.name 9), (.name 10)]) (.var 5) (.cons (.set 8 (.bin .add (.var 8) (.lc [11] (.tup (.cons (.bin .add (.var 9) (.tup (.cons (.sub (.var 2) (.var 11)) .nil))) (.cons (.var 11) .nil))) (.name 11) (.rng (.cons (.var 10) (.cons (.bi .len (.cons (.var 2) .nil)) .nil))) .nil)))
  .nil))
  (.cons (.set 5 (.var 8))
  (.cons (.set 6 (.bin .add (.var 6) (.lc [9, 10] (.var 9) (.tup [(.name 9), (.name 10)]) (.var 5) .nil)))
  .nil)))))
  (.cons (.ret (.bi .sorted (.cons (.var 6) .nil)))
  .nil)))))))
theorem c15 : compSs 200 200 ⟨N15, defScope (top 18), fns15, kwb, [], blts, true⟩ (defBody (top 18)) = some ir15 := by kernel_rfl
theorem s15 : FnScope N15 ["many", "most"] (defScope (top 18)) := ⟨rfl, rfl, rfl, by decide +kernel, rfl, by decide +kernel, by decide +kernel⟩
def N16 : List Str := ["jar", "book", "most", "every", "world", "more", "left"]
/-- _law_asked -/
def ir16 : ISs := (.cons (.set 3 (.lc [4] (.var 4) (.name 4) (.call 1366 (.cons (.bi .len (.cons (.sub (.var 1) (.int 0)) .nil)) (.cons (.var 2) .nil))) (.cons (.call 1125 (.cons (.var 1) (.cons (.var 4) .nil))) .nil)))
  (.cons (.ife (.not (.call 1269 (.cons (.tup (.cons (.call 6 (.cons (.var 1) (.cons (.var 2) .nil))) (.cons (.call 43 (.cons (.var 1) (.cons (.var 2) .nil))) .nil))) (.cons (.tup (.cons (.bi .tuple (.cons (.var 3) .nil)) (.cons (.bi .len (.cons (.var 3) .nil)) .nil))) .nil)))) (.cons (.ret (.bl false))
  .nil) .nil)
  (.cons (.set 5 (.call 1274 (.cons (.var 0) (.cons (.bi .len (.cons (.sub (.var 1) (.int 0)) .nil)) (.cons (.int 2) .nil)))))
  (.cons (.set 6 (.lc [4] (.var 4) (.name 4) (.var 3) (.cons (.call 1117 (.cons (.var 4) (.cons (.var 5) .nil))) .nil)))
  (.cons (.ret (.call 1269 (.cons (.callk 43 .nil (.cons (.var 2) (.cons (.tup (.cons (.sub (.var 1) (.int 0)) (.cons (.bin .add (.sub (.var 1) (.int 1)) (.tup (.cons (.var 5) .nil))) .nil))) .nil)) [1, 0]) (.cons (.bi .len (.cons (.var 6) .nil)) .nil))))
  .nil)))))
theorem c16 : compSs 200 200 ⟨N16, defScope (top 19), fns16, kwb, [], blts, true⟩ (defBody (top 19)) = some ir16 := by kernel_rfl
theorem s16 : FnScope N16 ["jar", "book", "most"] (defScope (top 19)) := ⟨rfl, rfl, rfl, by decide +kernel, rfl, by decide +kernel, by decide +kernel⟩
def N17 : List Str := ["script", "jar", "told", "turn", "many", "most"]
/-- law -/
def ir17 : ISs := (.cons (.set 1 (.call 1146 (.cons (.var 0) .nil)))
  (.cons (.set 2 (.tup (.cons (.call 6 (.cons (.tup (.cons (.tup (.cons (.str "a") .nil)) (.cons (.tup (.cons (.tup (.cons (.str "least") (.cons (.int 0) (.cons (.int 1) .nil)))) .nil)) .nil))) (.cons (.int 1) .nil))) (.cons (.call 43 (.cons (.tup (.cons (.tup (.cons (.str "a") (.cons (.str "b") .nil))) (.cons (.tup (.cons (.tup (.cons (.str "all") (.cons (.int 0) (.cons (.int 1) .nil)))) .nil)) .nil))) (.cons (.int 2) .nil))) (.cons (.call 6 (.cons (.tup (.cons (.tup (.cons (.str "a") .nil)) (.cons (.tup (.cons (.tup (.cons (.str "least") (.cons (.int 0) (.cons (.int 2) .nil)))) .nil)) .nil))) (.cons (.int 1) .nil))) (.cons (.callk 6 .nil (.cons (.int 0) (.cons (.tup (.cons (.tup (.cons (.str "a") .nil)) (.cons (.tup .nil) .nil))) .nil)) [1, 0]) .nil))))))
  (.cons (.ife (.not (.call 1269 (.cons (.var 2) (.cons (.tup (.cons (.tup (.cons (.tup (.cons (.tup (.cons (.int 0) .nil)) .nil)) .nil)) (.cons (.int 10) (.cons (.tup .nil) (.cons (.tup (.cons (.tup .nil) .nil)) .nil))))) .nil)))) (.cons (.ret (.bl false))
  .nil) .nil)
  (.cons (.ife (.not (.call 1269 (.cons (.tup (.cons (.call 6 (.cons (.tup (.cons (.tup (.cons (.str "a") .nil)) (.cons (.tup .nil) .nil))) (.cons (.int 2) .nil))) (.cons (.call 43 (.cons (.tup (.cons (.tup (.cons (.str "a") .nil)) (.cons (.tup (.cons (.tup (.cons (.str "more") (.cons (.int 0) (.cons (.int 0) (.cons (.int 1) .nil))))) .nil)) .nil))) (.cons (.int 5) .nil))) .nil))) (.cons (.tup (.cons (.tup (.cons (.tup .nil) (.cons (.tup (.cons (.tup .nil) .nil)) (.cons (.tup (.cons (.tup .nil) (.cons (.tup .nil) .nil))) (.cons (.tup (.cons (.tup .nil) (.cons (.tup (.cons (.int 0) .nil)) .nil))) (.cons (.tup (.cons (.tup (.cons (.int 0) .nil)) .nil)) (.cons (.tup (.cons (.tup (.cons (.int 0) .nil)) (.cons (.tup (.cons (.int 0) .nil)) .nil))) .nil))))))) (.cons (.int 0) .nil))) .nil)))) (.cons (.ret (.bl false))
  .nil) .nil)
  (.cons (.fo (.name 3) (.rng (.cons (.int 3) .nil)) (.cons (.set 4 (.bin .add (.int 1) (.call 1312 (.cons (.var 1) (.cons (.int 3) .nil)))))
  (.cons (.set 5 (.call 1312 (.cons (.var 1) (.cons (.sub (.tup (.cons (.int 6) (.cons (.int 6) (.cons (.int 4) .nil)))) (.bin .sub (.var 4) (.int 1))) .nil))))
  (.cons (.ife (.not (.call 1014 (.cons (.var 1) (.cons (.call 1022 (.cons (.var 1) (.cons (.var 4) (.cons (.call 1312 (.cons (.var 1) (.cons (.int 7) .nil))) (.cons (.int 4) .nil))))) (.cons (.var 5) .nil))))) (.cons (.ret (.bl false))
  .nil) .nil)
  .nil))))
  (.cons (.ife (.not (.call 1014 (.cons (.var 1) (.cons (.call 1022 (.cons (.var 1) (.cons (.int 2) (.cons (.bin .add (.int 1) (.call 1312 (.cons (.var 1) (.cons (.int 2) .nil)))) (.cons (.int 1) .nil))))) (.cons (.int 5) .nil))))) (.cons (.ret (.bl false))
  .nil) .nil)
  (.cons (.ret (.or (.cmp .lt (.call 1312 (.cons (.var 1) (.cons (.int 13) .nil))) (.int 12)) (.call 1014 (.cons (.var 1) (.cons (.call 1022 (.cons (.var 1) (.cons (.int 3) (.cons (.bin .add (.int 1) (.call 1312 (.cons (.var 1) (.cons (.int 3) .nil)))) (.cons (.int 2) .nil))))) (.cons (.int 5) .nil))))))
  .nil)))))))
theorem c17 : compSs 200 200 ⟨N17, defScope (top 20), fns17, kwb, [], blts, true⟩ (defBody (top 20)) = some ir17 := by kernel_rfl
theorem s17 : FnScope N17 ["script"] (defScope (top 20)) := ⟨rfl, rfl, rfl, by decide +kernel, rfl, by decide +kernel, by decide +kernel⟩
noncomputable def T_0 : Tb := T0
noncomputable def m_0 : FnD := mkF 3 (semSs T_0 ir0)
noncomputable def T_1 : Tb := T_0.with 169 m_0
noncomputable def m_1 : FnD := mkF 7 (semSs T_1 ir1)
noncomputable def T_2 : Tb := T_1.with 64 m_1
noncomputable def m_2 : FnD := mkF 4 (semSs T_2 ir2)
noncomputable def T_3 : Tb := T_2.with 25 m_2
noncomputable def m_3 : FnD := mkF 4 (semSs T_3 ir3)
noncomputable def T_4 : Tb := T_3.with 5 m_3
noncomputable def m_4 : FnD := mkF 7 (semSs T_4 ir4)
noncomputable def T_5 : Tb := T_4.with 175 m_4
noncomputable def m_5 : FnD := mkF 4 (semSs T_5 ir5)
noncomputable def T_6 : Tb := T_5.with 6 m_5
noncomputable def m_6 : FnD := mkF 2 (semSs T_6 ir6)
noncomputable def T_7 : Tb := T_6.with 43 m_6
noncomputable def m_7 : FnD := mkF 5 (semSs T_7 ir7)
noncomputable def T_8 : Tb := T_7.with 1146 m_7
noncomputable def m_8 : FnD := mkF 3 (semSs T_8 ir8)
noncomputable def T_9 : Tb := T_8.with 1312 m_8
noncomputable def m_9 : FnD := mkF 6 (semSs T_9 ir9)
noncomputable def T_10 : Tb := T_9.with 1269 m_9
noncomputable def m_10 : FnD := mkF 7 (semSs T_10 ir10)
noncomputable def T_11 : Tb := T_10.with 1274 m_10
noncomputable def m_11 : FnD := mkF 6 (semSs T_11 ir11)
noncomputable def T_12 : Tb := T_11.with 1022 m_11
noncomputable def m_12 : FnD := mkF 3 (semSs T_12 ir12)
noncomputable def T_13 : Tb := T_12.with 1290 m_12
noncomputable def m_13 : FnD := mkF 5 (semSs T_13 ir13)
noncomputable def T_14 : Tb := T_13.with 1117 m_13
noncomputable def m_14 : FnD := mkF 3 (semSs T_14 ir14)
noncomputable def T_15 : Tb := T_14.with 1125 m_14
noncomputable def m_15 : FnD := mkF 12 (semSs T_15 ir15)
noncomputable def T_16 : Tb := T_15.with 1366 m_15
noncomputable def m_16 : FnD := mkF 7 (semSs T_16 ir16)
noncomputable def T_17 : Tb := T_16.with 1014 m_16
noncomputable def m_17 : FnD := mkF 6 (semSs T_17 ir17)
theorem T_1_0 : T_1.fn 169 = m_0 := rfl
theorem T_2_1 : T_2.fn 64 = m_1 := rfl
theorem T_5_2 : T_5.fn 25 = m_2 := rfl
theorem T_5_3 : T_5.fn 5 = m_3 := rfl
theorem T_5_4 : T_5.fn 175 = m_4 := rfl
theorem T_6_5 : T_6.fn 6 = m_5 := rfl
theorem T_10_8 : T_10.fn 1312 = m_8 := rfl
theorem T_11_10 : T_11.fn 1274 = m_10 := rfl
theorem T_13_12 : T_13.fn 1290 = m_12 := rfl
theorem T_14_13 : T_14.fn 1117 = m_13 := rfl
theorem T_16_5 : T_16.fn 6 = m_5 := rfl
theorem T_16_6 : T_16.fn 43 = m_6 := rfl
theorem T_16_9 : T_16.fn 1269 = m_9 := rfl
theorem T_16_10 : T_16.fn 1274 = m_10 := rfl
theorem T_16_13 : T_16.fn 1117 = m_13 := rfl
theorem T_16_14 : T_16.fn 1125 = m_14 := rfl
theorem T_16_15 : T_16.fn 1366 = m_15 := rfl
theorem T_17_5 : T_17.fn 6 = m_5 := rfl
theorem T_17_6 : T_17.fn 43 = m_6 := rfl
theorem T_17_7 : T_17.fn 1146 = m_7 := rfl
theorem T_17_8 : T_17.fn 1312 = m_8 := rfl
theorem T_17_9 : T_17.fn 1269 = m_9 := rfl
theorem T_17_11 : T_17.fn 1022 = m_11 := rfl
theorem T_17_16 : T_17.fn 1014 = m_16 := rfl
noncomputable def T_18 : Tb := T_17.with 1373 m_17
end LK

/-! G1: what is the same in all laws: data, draws. -/
set_option linter.all false
set_option maxRecDepth 100000
set_option Elab.async false
set_option autoImplicit false
set_option maxHeartbeats 0
namespace G
open PySem Y
/-! ### small facts -/
def isIntD : D → Bool
  | .int _ => true
  | _ => false
def noRef : D → Bool
  | .ref _ => false
  | _ => true
theorem bools_map {α : Type} (f : α → Bool) : ∀ ds : List α, D.bools (ds.map fun d => .bl (f d)) = some (ds.map f)
  | [] => rfl
  | d :: ds => by simp [D.bools, bools_map f ds]
theorem ints_map {α : Type} (f : α → Int) : ∀ ds : List α, D.ints (ds.map fun d => .int (f d)) = some (ds.map f)
  | [] => rfl
  | d :: ds => by simp [D.ints, ints_map f ds]
theorem ints_of (is : List Int) : D.ints (is.map .int) = some is := by
  have := ints_map (fun i : Int => i) is
  simpa using this
theorem filterMap_some {α β : Type} (f : α → β) (l : List α) : l.filterMap (fun x => some (f x)) = l.map f := by
  induction l with
  | nil => rfl
  | cons a l ih => simp [ih]
theorem filterMap_if {α β : Type} (p : α → Bool) (f : α → β) (l : List α) : l.filterMap (fun x => if p x = true then some (f x) else none) = (l.filter p).map f := by
  induction l with
  | nil => rfl
  | cons a l ih =>
    by_cases h : p a = true
    · simp [List.filterMap_cons, List.filter_cons, h, ih]
    · simp [List.filterMap_cons, List.filter_cons, h, ih]
theorem log_small {i : Int} (h0 : 0 ≤ i) (h : i < 2 ^ 64) : i.natAbs.log2 ≤ 64 := by
  have : i.natAbs < 2 ^ 64 := by omega
  by_cases e : i.natAbs = 0
  · rw [e]; decide
  · exact Nat.le_of_lt ((Nat.log2_lt e).mpr this)
theorem ixN_0 (n : Nat) : ixN (n + 1) 0 = some 0 := by
  unfold ixN
  rw [if_pos (by omega), if_pos (by omega)]
  rfl
theorem ixN_21 : ixN 2 1 = some 1 := by decide
theorem ixN_nat {n : Nat} {k : Int} (h0 : 0 ≤ k) (h1 : k < n) : ixN n k = some k.toNat := by
  unfold ixN
  rw [if_pos h0, if_pos h1]
theorem cut_len {α : Type} (xs : List α) (lo hi : Option Int) : (cut xs lo hi).length ≤ xs.length := by
  unfold cut
  rw [List.length_take, List.length_drop]
  omega
theorem cut_mem {α : Type} {xs : List α} {lo hi : Option Int} {x : α} (h : x ∈ cut xs lo hi) : x ∈ xs := List.mem_of_mem_drop (List.mem_of_mem_take h)
theorem cut_map {α β : Type} (f : α → β) (l : List α) (lo hi : Option Int) : cut (l.map f) lo hi = (cut l lo hi).map f := by
  unfold cut; simp [List.map_drop, List.map_take]
theorem cut_hi {α : Type} (xs : List α) (n : Nat) : cut xs none (some (n : Int)) = xs.take n := by
  have e : sIx xs.length xs.length (some (n : Int)) = min n xs.length := by
    show (if (n : Int) < 0 then ((n : Int) + xs.length).toNat else min (n : Int).toNat xs.length) = _
    rw [if_neg (by omega)]
    simp
  unfold cut
  rw [e]
  simp only [sIx, Nat.sub_zero, List.drop_zero]
  rcases Nat.le_total n xs.length with h | h
  · rw [Nat.min_eq_left h]
  · rw [Nat.min_eq_right h, List.take_of_length_le (Nat.le_refl _), List.take_of_length_le h]
theorem cut_lo {α : Type} (xs : List α) (n : Nat) : cut xs (some (n : Int)) none = xs.drop n := by
  have e : sIx xs.length 0 (some (n : Int)) = min n xs.length := by
    show (if (n : Int) < 0 then ((n : Int) + xs.length).toNat else min (n : Int).toNat xs.length) = _
    rw [if_neg (by omega)]
    simp
  unfold cut
  rw [e]
  simp only [sIx]
  rcases Nat.le_total n xs.length with h | h
  · rw [Nat.min_eq_left h]
    exact List.take_of_length_le (by rw [List.length_drop]; omega)
  · rw [Nat.min_eq_right h]
    rw [List.drop_eq_nil_of_le h, List.drop_eq_nil_of_le (Nat.le_refl _)]
    simp
theorem upD_mem {i j : Int} {d : D} (h : d ∈ upD i j) : ∃ k : Int, d = .int k ∧ i ≤ k ∧ k < j := by
  unfold upD at h
  obtain ⟨n, hn, rfl⟩ := List.mem_map.mp h
  have : n < (j - i).toNat := List.mem_range.mp hn
  exact ⟨_, rfl, by omega, by omega⟩
theorem upD_len (n : Nat) : (upD 0 n).length = n := by simp [upD]
theorem upD_drop {n i : Nat} {d : D} {ds : List D} (h : (upD 0 n).drop i = d :: ds) : i < n ∧ d = .int i ∧ ds = (upD 0 n).drop (i + 1) := by
  have hi : i < (upD 0 n).length := by
    apply Classical.byContradiction
    intro q
    rw [List.drop_eq_nil_of_le (by omega)] at h
    cases h
  rw [List.drop_eq_getElem_cons hi] at h
  injection h with h1 h2
  have hn : i < n := by simpa [upD] using hi
  exact ⟨hn, by rw [← h1]; simp [upD], h2.symm⟩
theorem lim_eq : (lim : Nat) = 16777216 := rfl
mutual
def wt : D → Nat
  | .tup ds => wts ds + 1
  | _ => 1
def wts : List D → Nat
  | [] => 0
  | d :: ds => wt d + wts ds
end
theorem wt_pos (d : D) : 1 ≤ wt d := by cases d <;> simp [wt]
theorem wts_app : ∀ a b : List D, wts (a ++ b) = wts a + wts b
  | [], b => by simp [wts]
  | d :: a, b => by simp [wts, wts_app a b]; omega
theorem wts_len : ∀ a : List D, a.length ≤ wts a
  | [] => by simp [wts]
  | d :: a => by have := wts_len a; have := wt_pos d; simp [wts]; omega
/-- no places in it -/
def fl (d : D) : Prop := ∃ n, D.flat n d = true
theorem flatsMem {n : Nat} : ∀ {xs : List D}, D.flats n xs = true → ∀ x ∈ xs, D.flat n x = true
  | [], _, x, hx => by cases hx
  | y :: xs, h, x, hx => by
    rw [q_fC, Bool.and_eq_true] at h
    rcases List.mem_cons.mp hx with rfl | hx
    · exact h.1
    · exact flatsMem h.2 x hx
theorem flatsOf {n : Nat} : ∀ {xs : List D}, (∀ x ∈ xs, D.flat n x = true) → D.flats n xs = true
  | [], _ => by simp [q_f0]
  | y :: xs, h => by
    rw [q_fC, Bool.and_eq_true]
    exact ⟨h y List.mem_cons_self, flatsOf fun x hx => h x (List.mem_cons_of_mem _ hx)⟩
theorem fl_tup {xs : List D} (h : fl (.tup xs)) : ∀ x ∈ xs, fl x := by
  obtain ⟨n, h⟩ := h
  cases n with
  | zero => simp [D.flat] at h
  | succ n => rw [q_fT] at h; exact fun x hx => ⟨n, flatsMem h x hx⟩
/-! ### things and worlds -/
/-- a tuple of ints -/
def tD (t : List Int) : D := .tup (t.map .int)
/-- a list of such -/
def wsD (w : List (List Int)) : List D := w.map tD
def wD (w : List (List Int)) : D := .tup (wsD w)
theorem flat_ints (k : Nat) (t : List Int) : D.flats k (t.map .int) = true := flatsOf fun x hx => by
  obtain ⟨i, _, rfl⟩ := List.mem_map.mp hx
  exact q_fI
theorem flat_t (k : Nat) (t : List Int) : D.flat (k + 1) (tD t) = true := by unfold tD; rw [q_fT]; exact flat_ints k t
theorem flat_ws (k : Nat) (w : List (List Int)) : D.flats (k + 1) (wsD w) = true := flatsOf fun x hx => by
  obtain ⟨t, _, rfl⟩ := List.mem_map.mp hx
  exact flat_t k t
theorem any_ints (i : Int) : ∀ t : List Int, D.anyEq (.int i) (t.map .int) = decide (i ∈ t)
  | [] => rfl
  | j :: t => by
    simp only [List.map_cons, D.anyEq, any_ints i t, q_dII]
    by_cases h : j = i
    · subst h; simp
    · have h2 : ¬ i = j := fun z => h z.symm
      have h3 : (j == i) = false := by simpa using h
      simp [h2, h3]
theorem like_ints : ∀ s t : List Int, D.likeL (s.map .int) (t.map .int) = true
  | [], t => by cases t <;> simp [D.likeL]
  | a :: s, [] => by simp [D.likeL]
  | a :: s, b :: t => by simp only [List.map_cons, D.likeL, D.like, like_ints s t, Bool.and_self]
theorem like_t (s t : List Int) : D.like (tD s) (tD t) = true := by simp only [tD, D.like]; exact like_ints s t
theorem likes_ws (w : List (List Int)) : D.likes (wsD w) = true := by
  unfold D.likes
  rw [List.all_eq_true]
  intro x hx
  rw [List.all_eq_true]
  intro y hy
  obtain ⟨s, _, rfl⟩ := List.mem_map.mp hx
  obtain ⟨t, _, rfl⟩ := List.mem_map.mp hy
  exact like_t s t
theorem ws_len (w : List (List Int)) : (wsD w).length = w.length := by simp [wsD]
/-- what an operand stands for -/
def SeqD (d : D) (h : List Node) (ds : List D) : Prop := d = .tup ds ∨ ∃ l, d = .ref l ∧ h[l]? = some (.lst ds)
/-! ### sentences -/
inductive Sen where
  | all (a b : Int) | som (a b : Int) | lea (a n : Int) | mor (a b n : Int)
def Sen.d : Sen → D
  | .all a b => .tup [.str "all", .int a, .int b]
  | .som a b => .tup [.str "some", .int a, .int b]
  | .lea a n => .tup [.str "least", .int a, .int n]
  | .mor a b n => .tup [.str "more", .int a, .int b, .int n]
theorem str1 : (Str.ofString "some" == Str.ofString "all") = false := by decide +kernel
theorem str2 : (Str.ofString "some" == Str.ofString "more") = false := by decide +kernel
theorem str3 : (Str.ofString "least" == Str.ofString "all") = false := by decide +kernel
theorem str4 : (Str.ofString "least" == Str.ofString "more") = false := by decide +kernel
theorem str5 : (Str.ofString "more" == Str.ofString "all") = false := by decide +kernel
theorem str6 : (Str.ofString "all" == Str.ofString "least") = false := by decide +kernel
theorem str7 : (Str.ofString "all" == Str.ofString "more") = false := by decide +kernel
theorem str8 : (Str.ofString "more" == Str.ofString "least") = false := by decide +kernel
theorem str9 : (Str.ofString "some" == Str.ofString "least") = false := by decide +kernel
theorem str10 : (Str.ofString "all" == Str.ofString "some") = false := by decide +kernel
theorem str11 : (Str.ofString "least" == Str.ofString "some") = false := by decide +kernel
theorem str12 : (Str.ofString "more" == Str.ofString "some") = false := by decide +kernel
def bk (names : List D) (ss : List Sen) : D := .tup [.tup names, .tup (ss.map Sen.d)]
/-! ### draws -/
/-- a store of numbers: where it lies, when it is right, which places are its own -/
structure Jr where
  at_ : Nat
  ok : List Node → Prop
  mine : Nat → Prop
  low : ∀ h, ok h → ∀ i, mine i → i < h.length
  frame : ∀ h h', ok h → (∀ i, mine i → h'[i]? = h[i]?) → ok h'
/-- the other places are as they were -/
structure Keep (R : Jr) (h h' : List Node) : Prop where
  ok : R.ok h'
  len : h.length ≤ h'.length
  same : ∀ i, i < h.length → ¬ R.mine i → h'[i]? = h[i]?
theorem Keep.refl {R : Jr} {h : List Node} (o : R.ok h) : Keep R h h := ⟨o, Nat.le_refl _, fun _ _ _ => rfl⟩
theorem Keep.trans {R : Jr} {h h' h2 : List Node} (a : Keep R h h') (b : Keep R h' h2) : Keep R h h2 :=
  ⟨b.ok, Nat.le_trans a.len b.len, fun i hi hm => (b.same i (Nat.lt_of_lt_of_le hi a.len) hm).trans (a.same i hi hm)⟩
theorem Keep.get {R : Jr} {h h' : List Node} (a : Keep R h h') {i : Nat} {n : Node} (hm : ¬ R.mine i) (e : h[i]? = some n) : h'[i]? = some n :=
  (a.same i (List.getElem?_eq_some_iff.mp e).1 hm).trans e
theorem Jr.ok_app {R : Jr} {h : List Node} (o : R.ok h) (x : List Node) : R.ok (h ++ x) := R.frame h _ o fun i hi => List.getElem?_append_left (R.low h o i hi)
theorem Keep.app {R : Jr} {h h' : List Node} (a : Keep R h h') (x : List Node) : Keep R h (h' ++ x) :=
  ⟨Jr.ok_app a.ok x, by rw [List.length_append]; have := a.len; omega, fun i hi hm => (List.getElem?_append_left (Nat.lt_of_lt_of_le hi a.len)).trans (a.same i hi hm)⟩
theorem Keep.set {R : Jr} {h h' : List Node} (o : R.ok h) (a : Keep R h h') {l : Nat} (hl : h.length ≤ l) (n : Node) : Keep R h (h'.set l n) := by
  have q : ¬ R.mine l := fun m => absurd (R.low h o l m) (by omega)
  exact ⟨R.frame h' _ a.ok fun i hi => by rw [List.getElem?_set_ne (by rintro rfl; exact q hi)], by rw [List.length_set]; exact a.len, fun i hi hmi => by rw [List.getElem?_set_ne (by omega)]; exact a.same i hi hmi⟩
theorem Keep.gc {R : Jr} {h h' : List Node} (o : R.ok h) (r : RV) (a : Keep R h h') : Keep R h (Y.gc h.length r h') := by
  unfold Y.gc
  split
  · refine ⟨R.frame h' _ a.ok fun i hi => ?_, by rw [List.length_take]; have := a.len; omega, fun i hi hm => ?_⟩
    · rw [List.getElem?_take_of_lt (R.low h o i hi)]
    · rw [List.getElem?_take_of_lt hi]; exact a.same i hi hm
  · exact a
/-- what a draw gives: a number below many -/
def TakeSp (R : Jr) (f : FnD) : Prop := ∀ {h : List Node} {many : Int} {Q : RV → List Node → Prop}, R.ok h → 0 < many → many < 2 ^ 62 →
  (∀ k h', 0 ≤ k → k < many → Keep R h h' → h'.length = h.length → Q (.val (.int k)) h') → Fn f [.ref R.at_, .int many] h Q
end G

/-! G2: a jar [deep, mixed]. -/
set_option linter.all false
set_option maxRecDepth 100000
set_option Elab.async false
set_option autoImplicit false
set_option maxHeartbeats 0
namespace G
open PySem Y
def jarR (l l2 : Nat) (ne : l2 ≠ l) : Jr where
  at_ := l
  ok h := ∃ (deep : List Int) (mixed : Int), 0 ≤ mixed ∧ mixed < 4294967296 ∧ h[l]? = some (.lst [.ref l2, .int mixed]) ∧ h[l2]? = some (.lst (deep.map .int))
  mine i := i = l ∨ i = l2
  low := fun h ⟨_, _, _, _, e1, e2⟩ i hi => by
    rcases hi with rfl | rfl
    · exact (List.getElem?_eq_some_iff.mp e1).1
    · exact (List.getElem?_eq_some_iff.mp e2).1
  frame := fun h h' ⟨deep, mixed, m0, m1, e1, e2⟩ k => ⟨deep, mixed, m0, m1, (k l (.inl rfl)).trans e1, (k l2 (.inr rfl)).trans e2⟩
/-- _law_take -/
def irTake (c a m d : Int) : ISs := (.cons (.ife (.cmp .gt (.bi .len (.cons (.sub (.var 0) (.int 0)) .nil)) (.int 0)) (.cons (.set 2 (.bin .mod (.bi .int (.cons (.sub (.sub (.var 0) (.int 0)) (.int 0)) .nil)) (.var 1)))
  (.cons (.put (.sub (.var 0) (.int 0)) (.int 0) (.bin .fdiv (.sub (.sub (.var 0) (.int 0)) (.int 0)) (.var 1)))
  (.cons (.ife (.cmp .eq (.sub (.sub (.var 0) (.int 0)) (.int 0)) (.int 0)) (.cons (.expr (.meth .pop (.sub (.var 0) (.int 0)) (.cons (.int 0) .nil)))
  .nil) .nil)
  (.cons (.ret (.var 2))
  .nil)))) .nil)
  (.cons (.put (.var 0) (.int 1) (.bin .mod (.bi .int (.cons (.bin .add (.bin .mul (.sub (.var 0) (.int 1)) (.int c)) (.int a)) .nil)) (.int m)))
  (.cons (.ret (.bin .mod (.bi .int (.cons (.bin .fdiv (.sub (.var 0) (.int 1)) (.int d)) .nil)) (.var 1)))
  .nil)))
theorem take_sp (T : Tb) (l l2 : Nat) (ne : l2 ≠ l) (c a m d : Int) (hc : 0 ≤ c ∧ c < 4294967296) (ha : 0 ≤ a) (hm : 0 < m ∧ m < 4294967296) (hd : 0 < d ∧ d < 4294967296) : TakeSp (jarR l l2 ne) (mkF 3 (semSs T (irTake c a m d))) := by
  intro h many Q o h0 h1 q
  obtain ⟨deep, mixed, m0, m1, e1, e2⟩ := id o
  have l1 : many.natAbs.log2 < 9000 := by have := log_small (i := many) (by omega) (by omega); omega
  have l2' : mixed.natAbs.log2 + c.natAbs.log2 < 1000000 := by
    have := log_small (i := mixed) (by omega) (by omega)
    have := log_small (i := c) (by omega) (by omega)
    omega
  have l3 : d.natAbs.log2 < 9000 := by have := log_small (i := d) (by omega) (by omega); omega
  have lt1 : l < h.length := (List.getElem?_eq_some_iff.mp e1).1
  have lt2 : l2 < h.length := (List.getElem?_eq_some_iff.mp e2).1
  have ne' : l ≠ l2 := fun z => ne z.symm
  have at0 : (jarR l l2 ne).at_ = l := rfl
  have k1 := fun x : Int => Int.emod_nonneg x (show many ≠ 0 by omega)
  have k2 := fun x : Int => Int.emod_lt_of_pos x h0
  cases deep with
  | nil =>
    have g1 : ∀ n : Node, (h.set l n)[l]? = some n := fun n => by simp [lt1]
    simp [irTake, at0, fn_mkF, semSs, semS, sems, sem, mean, ok_seq, ok_thenN, ok_drop, ok_mRet, ok_mPar, ok_bind', ok_bind, ok_pure, ok_pure', ok_val, ok_tmp, ok_bl, ok_ite, ok_call, ok_lc, ok_lc2, ok_op2, ok_cmp, ok_truth, ok_subO, ok_cutO, ok_revO, ok_negO, ok_intOf, ok_bi, ok_meth, ok_metOk, ok_putO, ok_isi, ok_mVar, ok_toD, ok_stO, ok_rvO, ok_asB, ok_settle, ok_mRng, ok_walkO, ok_enumO, ok_ssetO, ok_put, ok_putT, ok_puts0, ok_putsC, ok_setNode, ok_mDs0, ok_mDsC, ok_mOs0, ok_mOsC, ok_mPart0, ok_mPart1, ok_mIfs0, ok_mIfsC, okM_ok, okM_stuck, okM_exc, okM_ite, Ty.below, atI_nat, atI_0, atI_1, atI_2, atI_3, atI_4, atI_5, atI_6, atI_7, atI_last, q_dII, q_dSS, q_dBB, q_dNN, q_dTT, q_dNI, q_dIN, q_dSI, q_dIS, q_dIT, q_dTI, q_dNT, q_dTN, q_dST, q_dTS, q_ds0, q_dsC, q_dsL, q_dsR, q_fI, q_fB, q_fN, q_fT, q_fS, q_f0, q_fC, q_mVar, q_toDv, q_toDt, q_toDo, q_stOv, q_stOt, q_stOo, q_rvOv, q_rvOt, q_rvOo, q_put, q_addI, q_addT, q_addS, q_subI, q_mulI, q_fdivI, q_modI, q_powI, q_shlI, q_shrI, q_addLtt, q_addLot, q_addLoo, q_neg, q_eq, q_ne, q_eqI, q_eqS, q_eqB, q_eqIB, q_eqBI, q_eqT, q_eqSI, q_eqIS, q_eqIT, q_eqTI, q_eqNI, q_eqIN, q_is, q_isnt, q_isNnon, q_isNint, q_isNbl, q_isNstr, q_isNtup, q_isNref, q_lt, q_gt, q_le, q_leT, q_ge, q_in, q_notin, q_trN, q_trB, q_trI, q_trT, q_trS, q_asB, q_subT, q_subR, q_subO, q_subM, q_nodeO, q_nodeR, q_nodeM, q_cutT, q_cutR, q_revT, q_intOf, q_lstR, q_lstM, q_lstO, q_lenT, q_lenS, q_lenR, q_lenO, q_lenM, q_abs, q_intI, q_intB, q_allM, q_anyM, q_sumM, q_tupT, q_tupM, q_tupO, q_tupR, q_listT, q_listM, q_listR, q_listO, q_isi, q_tyN, q_tyB, q_tyI, q_tyS, q_tyT, q_tyR, q_metOk, q_append, q_pop, q_popI, q_setO, q_setR, q_putO, q_walkT, q_walkM, q_walkR, q_walkO, q_setN, q_setM, q_setV, q_setlO, q_rng1, q_rng2, q_settV, q_settT, q_settO, q_opdV, q_opdN, q_addO, q_appL, q_popL, q_sortT, q_sortM, q_sortR, q_sortO, q_sset, q_max, q_min, q_mulT, q_cutO, q_cutM, q_enT, q_enM, q_inIT, q_inTT, q_inIR, q_eqMM, q_extend, q_insert, q_extL, q_insL, q_allO, q_allR, q_anyO, q_anyR, q_sumO, q_sumR, gc_same, h0, ixN_21, l2', l1, l3, hm.1, hd.1, e1, e2, g1, ne, ne']
    refine q _ _ (k1 _) (k2 _) ?_ ?_
    rotate_left
    · simp
    have hb := Int.emod_lt_of_pos (mixed * c + a) (b := m) hm.1
    have hn := Int.emod_nonneg (mixed * c + a) (b := m) (by omega)
    exact ⟨⟨[], _, hn, by omega, by simp [lt1], by rw [List.getElem?_set_ne ne']; exact e2⟩, by simp, fun i hi hmi => by rw [List.getElem?_set_ne (fun z => hmi (.inl z.symm))]⟩
  | cons x deep =>
    have e2c : h[l2]? = some (.lst (.int x :: deep.map .int)) := e2
    have keep : ∀ ds : List Int, Keep (jarR l l2 ne) h (h.set l2 (.lst (ds.map .int))) := fun ds =>
      ⟨⟨ds, mixed, m0, m1, by simpa [ne] using e1, by simp [lt2]⟩, by simp, fun i hi hmi => by rw [List.getElem?_set_ne (fun z => hmi (.inr z.symm))]⟩
    have g1 : ∀ n : Node, (h.set l2 n)[l]? = some (.lst [.ref l2, .int mixed]) := fun n => by rw [List.getElem?_set_ne ne]; exact e1
    have g2 : ∀ n : Node, (h.set l2 n)[l2]? = some n := fun n => by simp [lt2]
    by_cases hq : x / many = 0
    · simp [irTake, at0, fn_mkF, semSs, semS, sems, sem, mean, ok_seq, ok_thenN, ok_drop, ok_mRet, ok_mPar, ok_bind', ok_bind, ok_pure, ok_pure', ok_val, ok_tmp, ok_bl, ok_ite, ok_call, ok_lc, ok_lc2, ok_op2, ok_cmp, ok_truth, ok_subO, ok_cutO, ok_revO, ok_negO, ok_intOf, ok_bi, ok_meth, ok_metOk, ok_putO, ok_isi, ok_mVar, ok_toD, ok_stO, ok_rvO, ok_asB, ok_settle, ok_mRng, ok_walkO, ok_enumO, ok_ssetO, ok_put, ok_putT, ok_puts0, ok_putsC, ok_setNode, ok_mDs0, ok_mDsC, ok_mOs0, ok_mOsC, ok_mPart0, ok_mPart1, ok_mIfs0, ok_mIfsC, okM_ok, okM_stuck, okM_exc, okM_ite, Ty.below, atI_nat, atI_0, atI_1, atI_2, atI_3, atI_4, atI_5, atI_6, atI_7, atI_last, q_dII, q_dSS, q_dBB, q_dNN, q_dTT, q_dNI, q_dIN, q_dSI, q_dIS, q_dIT, q_dTI, q_dNT, q_dTN, q_dST, q_dTS, q_ds0, q_dsC, q_dsL, q_dsR, q_fI, q_fB, q_fN, q_fT, q_fS, q_f0, q_fC, q_mVar, q_toDv, q_toDt, q_toDo, q_stOv, q_stOt, q_stOo, q_rvOv, q_rvOt, q_rvOo, q_put, q_addI, q_addT, q_addS, q_subI, q_mulI, q_fdivI, q_modI, q_powI, q_shlI, q_shrI, q_addLtt, q_addLot, q_addLoo, q_neg, q_eq, q_ne, q_eqI, q_eqS, q_eqB, q_eqIB, q_eqBI, q_eqT, q_eqSI, q_eqIS, q_eqIT, q_eqTI, q_eqNI, q_eqIN, q_is, q_isnt, q_isNnon, q_isNint, q_isNbl, q_isNstr, q_isNtup, q_isNref, q_lt, q_gt, q_le, q_leT, q_ge, q_in, q_notin, q_trN, q_trB, q_trI, q_trT, q_trS, q_asB, q_subT, q_subR, q_subO, q_subM, q_nodeO, q_nodeR, q_nodeM, q_cutT, q_cutR, q_revT, q_intOf, q_lstR, q_lstM, q_lstO, q_lenT, q_lenS, q_lenR, q_lenO, q_lenM, q_abs, q_intI, q_intB, q_allM, q_anyM, q_sumM, q_tupT, q_tupM, q_tupO, q_tupR, q_listT, q_listM, q_listR, q_listO, q_isi, q_tyN, q_tyB, q_tyI, q_tyS, q_tyT, q_tyR, q_metOk, q_append, q_pop, q_popI, q_setO, q_setR, q_putO, q_walkT, q_walkM, q_walkR, q_walkO, q_setN, q_setM, q_setV, q_setlO, q_rng1, q_rng2, q_settV, q_settT, q_settO, q_opdV, q_opdN, q_addO, q_appL, q_popL, q_sortT, q_sortM, q_sortR, q_sortO, q_sset, q_max, q_min, q_mulT, q_cutO, q_cutM, q_enT, q_enM, q_inIT, q_inTT, q_inIR, q_eqMM, q_extend, q_insert, q_extL, q_insL, q_allO, q_allR, q_anyO, q_anyR, q_sumO, q_sumR, gc_same, h0, ixN_0, l1, hq, e1, e2c, g1, g2, ne, ne']
      exact q _ _ (k1 _) (k2 _) (keep deep) (by simp)
    · simp [irTake, at0, fn_mkF, semSs, semS, sems, sem, mean, ok_seq, ok_thenN, ok_drop, ok_mRet, ok_mPar, ok_bind', ok_bind, ok_pure, ok_pure', ok_val, ok_tmp, ok_bl, ok_ite, ok_call, ok_lc, ok_lc2, ok_op2, ok_cmp, ok_truth, ok_subO, ok_cutO, ok_revO, ok_negO, ok_intOf, ok_bi, ok_meth, ok_metOk, ok_putO, ok_isi, ok_mVar, ok_toD, ok_stO, ok_rvO, ok_asB, ok_settle, ok_mRng, ok_walkO, ok_enumO, ok_ssetO, ok_put, ok_putT, ok_puts0, ok_putsC, ok_setNode, ok_mDs0, ok_mDsC, ok_mOs0, ok_mOsC, ok_mPart0, ok_mPart1, ok_mIfs0, ok_mIfsC, okM_ok, okM_stuck, okM_exc, okM_ite, Ty.below, atI_nat, atI_0, atI_1, atI_2, atI_3, atI_4, atI_5, atI_6, atI_7, atI_last, q_dII, q_dSS, q_dBB, q_dNN, q_dTT, q_dNI, q_dIN, q_dSI, q_dIS, q_dIT, q_dTI, q_dNT, q_dTN, q_dST, q_dTS, q_ds0, q_dsC, q_dsL, q_dsR, q_fI, q_fB, q_fN, q_fT, q_fS, q_f0, q_fC, q_mVar, q_toDv, q_toDt, q_toDo, q_stOv, q_stOt, q_stOo, q_rvOv, q_rvOt, q_rvOo, q_put, q_addI, q_addT, q_addS, q_subI, q_mulI, q_fdivI, q_modI, q_powI, q_shlI, q_shrI, q_addLtt, q_addLot, q_addLoo, q_neg, q_eq, q_ne, q_eqI, q_eqS, q_eqB, q_eqIB, q_eqBI, q_eqT, q_eqSI, q_eqIS, q_eqIT, q_eqTI, q_eqNI, q_eqIN, q_is, q_isnt, q_isNnon, q_isNint, q_isNbl, q_isNstr, q_isNtup, q_isNref, q_lt, q_gt, q_le, q_leT, q_ge, q_in, q_notin, q_trN, q_trB, q_trI, q_trT, q_trS, q_asB, q_subT, q_subR, q_subO, q_subM, q_nodeO, q_nodeR, q_nodeM, q_cutT, q_cutR, q_revT, q_intOf, q_lstR, q_lstM, q_lstO, q_lenT, q_lenS, q_lenR, q_lenO, q_lenM, q_abs, q_intI, q_intB, q_allM, q_anyM, q_sumM, q_tupT, q_tupM, q_tupO, q_tupR, q_listT, q_listM, q_listR, q_listO, q_isi, q_tyN, q_tyB, q_tyI, q_tyS, q_tyT, q_tyR, q_metOk, q_append, q_pop, q_popI, q_setO, q_setR, q_putO, q_walkT, q_walkM, q_walkR, q_walkO, q_setN, q_setM, q_setV, q_setlO, q_rng1, q_rng2, q_settV, q_settT, q_settO, q_opdV, q_opdN, q_addO, q_appL, q_popL, q_sortT, q_sortM, q_sortR, q_sortO, q_sset, q_max, q_min, q_mulT, q_cutO, q_cutM, q_enT, q_enM, q_inIT, q_inTT, q_inIR, q_eqMM, q_extend, q_insert, q_extL, q_insL, q_allO, q_allR, q_anyO, q_anyR, q_sumO, q_sumR, gc_same, h0, ixN_0, l1, hq, e1, e2c, g1, g2, ne, ne']
      exact q _ _ (k1 _) (k2 _) (keep (x / many :: deep)) (by simp)
end G

/-! G3: the jar's making, alike values, sentences, books. -/
set_option linter.all false
set_option maxRecDepth 100000
set_option Elab.async false
set_option autoImplicit false
set_option maxHeartbeats 0
namespace G
open PySem Y
/-- _law_jar -/
def irJar (st mul md ad top : Int) : ISs := (.cons (.set 1 (.int st))
  (.cons (.set 2 (.lst .nil))
  (.cons (.fo (.name 3) (.cut (.var 0) .nil (.cons (.int top) .nil)) (.cons (.set 4 (.bin .mod (.bi .abs (.cons (.bi .int (.cons (.var 3) .nil)) .nil)) (.bin .shl (.int 1) (.int 2000))))
  (.cons (.set 1 (.bin .mod (.bi .int (.cons (.bin .add (.bin .add (.bin .mul (.var 1) (.int mul)) (.bin .mod (.bi .int (.cons (.var 4) .nil)) (.int md))) (.int ad)) .nil)) (.int md)))
  (.cons (.ife (.cmp .ge (.var 4) (.bin .pow (.int 10) (.int 18))) (.cons (.expr (.meth .append (.var 2) (.cons (.var 4) .nil)))
  .nil) .nil)
  .nil))))
  (.cons (.ret (.lst (.cons (.var 2) (.cons (.var 1) .nil))))
  .nil))))
theorem jar_sp (T : Tb) (st mul md ad top : Int) (hst : 0 ≤ st ∧ st < 4294967296) (hmul : 0 ≤ mul ∧ mul < 4294967296) (hmd : 0 < md ∧ md < 4294967296) (ns : List Int) (hl : ns.length ≤ 63) {Q : RV → List Node → Prop}
    (q : ∀ (deep : List Int) (mixed : Int), 0 ≤ mixed → mixed < 4294967296 → Q (.node (.lst [.ref 1, .int mixed])) [.fro (ns.map .int), .lst (deep.map .int)]) : Fn (mkF 5 (semSs T (irJar st mul md ad top))) [.ref 0] [.fro (ns.map .int)] Q := by
  simp [irJar, fn_mkF, semSs, semS, sems, sem, mean, ok_seq, ok_thenN, ok_drop, ok_mRet, ok_mPar, ok_bind', ok_bind, ok_pure, ok_pure', ok_val, ok_tmp, ok_bl, ok_ite, ok_call, ok_lc, ok_lc2, ok_op2, ok_cmp, ok_truth, ok_subO, ok_cutO, ok_revO, ok_negO, ok_intOf, ok_bi, ok_meth, ok_metOk, ok_putO, ok_isi, ok_mVar, ok_toD, ok_stO, ok_rvO, ok_asB, ok_settle, ok_mRng, ok_walkO, ok_enumO, ok_ssetO, ok_put, ok_putT, ok_puts0, ok_putsC, ok_setNode, ok_mDs0, ok_mDsC, ok_mOs0, ok_mOsC, ok_mPart0, ok_mPart1, ok_mIfs0, ok_mIfsC, okM_ok, okM_stuck, okM_exc, okM_ite, Ty.below, atI_nat, atI_0, atI_1, atI_2, atI_3, atI_4, atI_5, atI_6, atI_7, atI_last, q_dII, q_dSS, q_dBB, q_dNN, q_dTT, q_dNI, q_dIN, q_dSI, q_dIS, q_dIT, q_dTI, q_dNT, q_dTN, q_dST, q_dTS, q_ds0, q_dsC, q_dsL, q_dsR, q_fI, q_fB, q_fN, q_fT, q_fS, q_f0, q_fC, q_mVar, q_toDv, q_toDt, q_toDo, q_stOv, q_stOt, q_stOo, q_rvOv, q_rvOt, q_rvOo, q_put, q_addI, q_addT, q_addS, q_subI, q_mulI, q_fdivI, q_modI, q_powI, q_shlI, q_shrI, q_addLtt, q_addLot, q_addLoo, q_neg, q_eq, q_ne, q_eqI, q_eqS, q_eqB, q_eqIB, q_eqBI, q_eqT, q_eqSI, q_eqIS, q_eqIT, q_eqTI, q_eqNI, q_eqIN, q_is, q_isnt, q_isNnon, q_isNint, q_isNbl, q_isNstr, q_isNtup, q_isNref, q_lt, q_gt, q_le, q_leT, q_ge, q_in, q_notin, q_trN, q_trB, q_trI, q_trT, q_trS, q_asB, q_subT, q_subR, q_subO, q_subM, q_nodeO, q_nodeR, q_nodeM, q_cutT, q_cutR, q_revT, q_intOf, q_lstR, q_lstM, q_lstO, q_lenT, q_lenS, q_lenR, q_lenO, q_lenM, q_abs, q_intI, q_intB, q_allM, q_anyM, q_sumM, q_tupT, q_tupM, q_tupO, q_tupR, q_listT, q_listM, q_listR, q_listO, q_isi, q_tyN, q_tyB, q_tyI, q_tyS, q_tyT, q_tyR, q_metOk, q_append, q_pop, q_popI, q_setO, q_setR, q_putO, q_walkT, q_walkM, q_walkR, q_walkO, q_setN, q_setM, q_setV, q_setlO, q_rng1, q_rng2, q_settV, q_settT, q_settO, q_opdV, q_opdN, q_addO, q_appL, q_popL, q_sortT, q_sortM, q_sortR, q_sortO, q_sset, q_max, q_min, q_mulT, q_cutO, q_cutM, q_enT, q_enM, q_inIT, q_inTT, q_inIR, q_eqMM, q_extend, q_insert, q_extL, q_insL, q_allO, q_allR, q_anyO, q_anyR, q_sumO, q_sumR]
  obtain ⟨I, hI⟩ : ∃ I : List D → St → Prop, ∀ ds s, I ds s ↔ ∃ (l deep : List Int) (m : Int) (x3 x4 : Slot), ds = l.map .int ∧ 0 ≤ m ∧ m < 4294967296 ∧ deep.length + l.length ≤ 100 ∧ s = ⟨[.val (.ref 0), .val (.int m), .own (.lst (deep.map .int)), x3, x4], [.fro (ns.map .int)]⟩ := ⟨_, fun _ _ => Iff.rfl⟩
  refine ok_for I ?_ ?_ _ _ ((hI _ _).mpr ⟨cut ns none (some top), [], st, .unset, .unset, cut_map _ _ _ _, by omega, by omega, ?_, rfl⟩)
  · intro d ds s hs
    obtain ⟨l, deep, m, x3, x4, e, m0, m1, hlen, rfl⟩ := (hI _ _).mp hs
    cases l with
    | nil => cases e
    | cons n l =>
      cases e
      refine ⟨same_tmp, ?_⟩
      have l2' : m.natAbs.log2 + mul.natAbs.log2 < 1000000 := by
        have := log_small (i := m) (by omega) (by omega)
        have := log_small (i := mul) (by omega) (by omega)
        omega
      have hdl : deep.length < lim := by have := lim_eq; simp at hlen; omega
      simp [fn_mkF, semSs, semS, sems, sem, mean, ok_seq, ok_thenN, ok_drop, ok_mRet, ok_mPar, ok_bind', ok_bind, ok_pure, ok_pure', ok_val, ok_tmp, ok_bl, ok_ite, ok_call, ok_lc, ok_lc2, ok_op2, ok_cmp, ok_truth, ok_subO, ok_cutO, ok_revO, ok_negO, ok_intOf, ok_bi, ok_meth, ok_metOk, ok_putO, ok_isi, ok_mVar, ok_toD, ok_stO, ok_rvO, ok_asB, ok_settle, ok_mRng, ok_walkO, ok_enumO, ok_ssetO, ok_put, ok_putT, ok_puts0, ok_putsC, ok_setNode, ok_mDs0, ok_mDsC, ok_mOs0, ok_mOsC, ok_mPart0, ok_mPart1, ok_mIfs0, ok_mIfsC, okM_ok, okM_stuck, okM_exc, okM_ite, Ty.below, atI_nat, atI_0, atI_1, atI_2, atI_3, atI_4, atI_5, atI_6, atI_7, atI_last, q_dII, q_dSS, q_dBB, q_dNN, q_dTT, q_dNI, q_dIN, q_dSI, q_dIS, q_dIT, q_dTI, q_dNT, q_dTN, q_dST, q_dTS, q_ds0, q_dsC, q_dsL, q_dsR, q_fI, q_fB, q_fN, q_fT, q_fS, q_f0, q_fC, q_mVar, q_toDv, q_toDt, q_toDo, q_stOv, q_stOt, q_stOo, q_rvOv, q_rvOt, q_rvOo, q_put, q_addI, q_addT, q_addS, q_subI, q_mulI, q_fdivI, q_modI, q_powI, q_shlI, q_shrI, q_addLtt, q_addLot, q_addLoo, q_neg, q_eq, q_ne, q_eqI, q_eqS, q_eqB, q_eqIB, q_eqBI, q_eqT, q_eqSI, q_eqIS, q_eqIT, q_eqTI, q_eqNI, q_eqIN, q_is, q_isnt, q_isNnon, q_isNint, q_isNbl, q_isNstr, q_isNtup, q_isNref, q_lt, q_gt, q_le, q_leT, q_ge, q_in, q_notin, q_trN, q_trB, q_trI, q_trT, q_trS, q_asB, q_subT, q_subR, q_subO, q_subM, q_nodeO, q_nodeR, q_nodeM, q_cutT, q_cutR, q_revT, q_intOf, q_lstR, q_lstM, q_lstO, q_lenT, q_lenS, q_lenR, q_lenO, q_lenM, q_abs, q_intI, q_intB, q_allM, q_anyM, q_sumM, q_tupT, q_tupM, q_tupO, q_tupR, q_listT, q_listM, q_listR, q_listO, q_isi, q_tyN, q_tyB, q_tyI, q_tyS, q_tyT, q_tyR, q_metOk, q_append, q_pop, q_popI, q_setO, q_setR, q_putO, q_walkT, q_walkM, q_walkR, q_walkO, q_setN, q_setM, q_setV, q_setlO, q_rng1, q_rng2, q_settV, q_settT, q_settO, q_opdV, q_opdN, q_addO, q_appL, q_popL, q_sortT, q_sortM, q_sortR, q_sortO, q_sset, q_max, q_min, q_mulT, q_cutO, q_cutM, q_enT, q_enM, q_inIT, q_inTT, q_inIR, q_eqMM, q_extend, q_insert, q_extL, q_insL, q_allO, q_allR, q_anyO, q_anyR, q_sumO, q_sumR, l2', hdl, hmd.1]
      refine ⟨Int.pow_pos (by decide), ?_⟩
      have hm1 : ∀ x : Int, 0 ≤ x % md ∧ x % md < 4294967296 := fun x => ⟨Int.emod_nonneg _ (by omega), by have := Int.emod_lt_of_pos x hmd.1; omega⟩
      generalize (if n < 0 then -n else n) % 2 ^ 2000 = z
      split
      · exact (hI _ _).mpr ⟨l, deep ++ [z], (m * mul + z % md + ad) % md, .val (.int n), .val (.int z), rfl, (hm1 _).1, (hm1 _).2, by simp at hlen ⊢; omega, by simp⟩
      · exact (hI _ _).mpr ⟨l, deep, (m * mul + z % md + ad) % md, .val (.int n), .val (.int z), rfl, (hm1 _).1, (hm1 _).2, by simp at hlen ⊢; omega, rfl⟩
  · intro s hs
    obtain ⟨l, deep, m, x3, x4, e, m0, m1, hlen, rfl⟩ := (hI _ _).mp hs
    refine ⟨same_tmp, ?_⟩
    simp [fn_mkF, semSs, semS, sems, sem, mean, ok_seq, ok_thenN, ok_drop, ok_mRet, ok_mPar, ok_bind', ok_bind, ok_pure, ok_pure', ok_val, ok_tmp, ok_bl, ok_ite, ok_call, ok_lc, ok_lc2, ok_op2, ok_cmp, ok_truth, ok_subO, ok_cutO, ok_revO, ok_negO, ok_intOf, ok_bi, ok_meth, ok_metOk, ok_putO, ok_isi, ok_mVar, ok_toD, ok_stO, ok_rvO, ok_asB, ok_settle, ok_mRng, ok_walkO, ok_enumO, ok_ssetO, ok_put, ok_putT, ok_puts0, ok_putsC, ok_setNode, ok_mDs0, ok_mDsC, ok_mOs0, ok_mOsC, ok_mPart0, ok_mPart1, ok_mIfs0, ok_mIfsC, okM_ok, okM_stuck, okM_exc, okM_ite, Ty.below, atI_nat, atI_0, atI_1, atI_2, atI_3, atI_4, atI_5, atI_6, atI_7, atI_last, q_dII, q_dSS, q_dBB, q_dNN, q_dTT, q_dNI, q_dIN, q_dSI, q_dIS, q_dIT, q_dTI, q_dNT, q_dTN, q_dST, q_dTS, q_ds0, q_dsC, q_dsL, q_dsR, q_fI, q_fB, q_fN, q_fT, q_fS, q_f0, q_fC, q_mVar, q_toDv, q_toDt, q_toDo, q_stOv, q_stOt, q_stOo, q_rvOv, q_rvOt, q_rvOo, q_put, q_addI, q_addT, q_addS, q_subI, q_mulI, q_fdivI, q_modI, q_powI, q_shlI, q_shrI, q_addLtt, q_addLot, q_addLoo, q_neg, q_eq, q_ne, q_eqI, q_eqS, q_eqB, q_eqIB, q_eqBI, q_eqT, q_eqSI, q_eqIS, q_eqIT, q_eqTI, q_eqNI, q_eqIN, q_is, q_isnt, q_isNnon, q_isNint, q_isNbl, q_isNstr, q_isNtup, q_isNref, q_lt, q_gt, q_le, q_leT, q_ge, q_in, q_notin, q_trN, q_trB, q_trI, q_trT, q_trS, q_asB, q_subT, q_subR, q_subO, q_subM, q_nodeO, q_nodeR, q_nodeM, q_cutT, q_cutR, q_revT, q_intOf, q_lstR, q_lstM, q_lstO, q_lenT, q_lenS, q_lenR, q_lenO, q_lenM, q_abs, q_intI, q_intB, q_allM, q_anyM, q_sumM, q_tupT, q_tupM, q_tupO, q_tupR, q_listT, q_listM, q_listR, q_listO, q_isi, q_tyN, q_tyB, q_tyI, q_tyS, q_tyT, q_tyR, q_metOk, q_append, q_pop, q_popI, q_setO, q_setR, q_putO, q_walkT, q_walkM, q_walkR, q_walkO, q_setN, q_setM, q_setV, q_setlO, q_rng1, q_rng2, q_settV, q_settT, q_settO, q_opdV, q_opdN, q_addO, q_appL, q_popL, q_sortT, q_sortM, q_sortR, q_sortO, q_sset, q_max, q_min, q_mulT, q_cutO, q_cutM, q_enT, q_enM, q_inIT, q_inTT, q_inIR, q_eqMM, q_extend, q_insert, q_extL, q_insL, q_allO, q_allR, q_anyO, q_anyR, q_sumO, q_sumR, gc, RV.low, Node.low, D.lows, D.low]
    exact q deep m m0 m1
  · have := cut_len ns none (some top)
    simp; omega
/-- _law_same, of the same -/
def SameSp (f : FnD) : Prop := ∀ (d : D) (h : List Node), fl d → wt d < 1000000 → f [d, d] h = .ret (.val (.bl true)) h
def irSame : ISs := (.cons (.set 2 (.lst (.cons (.tup (.cons (.var 0) (.cons (.var 1) .nil))) .nil)))
  (.cons (.whl (.cmp .gt (.bi .len (.cons (.var 2) .nil)) (.int 0)) (.cons (.asg (.tup [(.name 3), (.name 4)]) (.meth .pop (.var 2) .nil))
  (.cons (.ife (.isi [.tuple, .list] (.var 4)) (.cons (.ife (.or (.and (.isi [.tuple] (.var 4)) (.not (.isi [.tuple] (.var 3)))) (.and (.isi [.list] (.var 4)) (.not (.isi [.list] (.var 3))))) (.cons (.ret (.bl false))
  .nil) .nil)
  (.cons (.ife (.not (.cmp .eq (.bi .len (.cons (.var 3) .nil)) (.bi .len (.cons (.var 4) .nil)))) (.cons (.ret (.bl false))
  .nil) .nil)
  (.cons (.fo (.name 5) (.rng (.cons (.bi .len (.cons (.var 4) .nil)) .nil)) (.cons (.expr (.meth .append (.var 2) (.cons (.tup (.cons (.sub (.var 3) (.var 5)) (.cons (.sub (.var 4) (.var 5)) .nil))) .nil)))
  .nil))
  .nil))) (.cons (.ife (.cmp .isN (.var 4) .non) (.cons (.ife (.cmp .notN (.var 3) .non) (.cons (.ret (.bl false))
  .nil) .nil)
  .nil) (.cons (.ife (.isi [.bool] (.var 4)) (.cons (.ife (.or (.not (.isi [.bool] (.var 3))) (.not (.cmp .eq (.var 3) (.var 4)))) (.cons (.ret (.bl false))
  .nil) .nil)
  .nil) (.cons (.ife (.isi [.str] (.var 4)) (.cons (.ife (.or (.not (.isi [.str] (.var 3))) (.not (.cmp .eq (.var 3) (.var 4)))) (.cons (.ret (.bl false))
  .nil) .nil)
  .nil) (.cons (.ife (.or (.not (.isi [.int] (.var 3))) (.or (.isi [.bool] (.var 3)) (.not (.cmp .eq (.var 3) (.var 4))))) (.cons (.ret (.bl false))
  .nil) .nil)
  .nil))
  .nil))
  .nil))
  .nil))
  .nil)))
  (.cons (.ret (.bl true))
  .nil)))
def pr (x : D) : D := .tup [x, x]
theorem same_sp (T : Tb) : SameSp (mkF 6 (semSs T irSame)) := by
  intro d h hf hw
  apply fn_eq
  have hlim := lim_eq
  simp [irSame, fn_mkF, semSs, semS, sems, sem, mean, ok_seq, ok_thenN, ok_drop, ok_mRet, ok_mPar, ok_bind', ok_bind, ok_pure, ok_pure', ok_val, ok_tmp, ok_bl, ok_ite, ok_call, ok_lc, ok_lc2, ok_op2, ok_cmp, ok_truth, ok_subO, ok_cutO, ok_revO, ok_negO, ok_intOf, ok_bi, ok_meth, ok_metOk, ok_putO, ok_isi, ok_mVar, ok_toD, ok_stO, ok_rvO, ok_asB, ok_settle, ok_mRng, ok_walkO, ok_enumO, ok_ssetO, ok_put, ok_putT, ok_puts0, ok_putsC, ok_setNode, ok_mDs0, ok_mDsC, ok_mOs0, ok_mOsC, ok_mPart0, ok_mPart1, ok_mIfs0, ok_mIfsC, okM_ok, okM_stuck, okM_exc, okM_ite, Ty.below, atI_nat, atI_0, atI_1, atI_2, atI_3, atI_4, atI_5, atI_6, atI_7, atI_last, q_dII, q_dSS, q_dBB, q_dNN, q_dTT, q_dNI, q_dIN, q_dSI, q_dIS, q_dIT, q_dTI, q_dNT, q_dTN, q_dST, q_dTS, q_ds0, q_dsC, q_dsL, q_dsR, q_fI, q_fB, q_fN, q_fT, q_fS, q_f0, q_fC, q_mVar, q_toDv, q_toDt, q_toDo, q_stOv, q_stOt, q_stOo, q_rvOv, q_rvOt, q_rvOo, q_put, q_addI, q_addT, q_addS, q_subI, q_mulI, q_fdivI, q_modI, q_powI, q_shlI, q_shrI, q_addLtt, q_addLot, q_addLoo, q_neg, q_eq, q_ne, q_eqI, q_eqS, q_eqB, q_eqIB, q_eqBI, q_eqT, q_eqSI, q_eqIS, q_eqIT, q_eqTI, q_eqNI, q_eqIN, q_is, q_isnt, q_isNnon, q_isNint, q_isNbl, q_isNstr, q_isNtup, q_isNref, q_lt, q_gt, q_le, q_leT, q_ge, q_in, q_notin, q_trN, q_trB, q_trI, q_trT, q_trS, q_asB, q_subT, q_subR, q_subO, q_subM, q_nodeO, q_nodeR, q_nodeM, q_cutT, q_cutR, q_revT, q_intOf, q_lstR, q_lstM, q_lstO, q_lenT, q_lenS, q_lenR, q_lenO, q_lenM, q_abs, q_intI, q_intB, q_allM, q_anyM, q_sumM, q_tupT, q_tupM, q_tupO, q_tupR, q_listT, q_listM, q_listR, q_listO, q_isi, q_tyN, q_tyB, q_tyI, q_tyS, q_tyT, q_tyR, q_metOk, q_append, q_pop, q_popI, q_setO, q_setR, q_putO, q_walkT, q_walkM, q_walkR, q_walkO, q_setN, q_setM, q_setV, q_setlO, q_rng1, q_rng2, q_settV, q_settT, q_settO, q_opdV, q_opdN, q_addO, q_appL, q_popL, q_sortT, q_sortM, q_sortR, q_sortO, q_sset, q_max, q_min, q_mulT, q_cutO, q_cutM, q_enT, q_enM, q_inIT, q_inTT, q_inIR, q_eqMM, q_extend, q_insert, q_extL, q_insL, q_allO, q_allR, q_anyO, q_anyR, q_sumO, q_sumR, gc_same]
  obtain ⟨I, hI⟩ : ∃ I : Nat → St → Prop, ∀ n s, I n s ↔ ∃ (ps : List D) (x3 x4 x5 : Slot), (∀ x ∈ ps, fl x) ∧ wts ps = n ∧ n < 1000000 ∧ s = ⟨[.val d, .val d, .own (.lst (ps.map pr)), x3, x4, x5], h⟩ := ⟨_, fun _ _ => Iff.rfl⟩
  refine ok_while I ?_ (wt d) _ ((hI _ _).mpr ⟨[d], .unset, .unset, .unset, by simpa using hf, by simp [wts], hw, rfl⟩)
  intro n s hs
  obtain ⟨ps, x3, x4, x5, hp, hn, hlt, rfl⟩ := (hI _ _).mp hs
  have hlen := wts_len ps
  rcases List.eq_nil_or_concat ps with rfl | ⟨qs, x, rfl⟩
  · simp [fn_mkF, semSs, semS, sems, sem, mean, ok_seq, ok_thenN, ok_drop, ok_mRet, ok_mPar, ok_bind', ok_bind, ok_pure, ok_pure', ok_val, ok_tmp, ok_bl, ok_ite, ok_call, ok_lc, ok_lc2, ok_op2, ok_cmp, ok_truth, ok_subO, ok_cutO, ok_revO, ok_negO, ok_intOf, ok_bi, ok_meth, ok_metOk, ok_putO, ok_isi, ok_mVar, ok_toD, ok_stO, ok_rvO, ok_asB, ok_settle, ok_mRng, ok_walkO, ok_enumO, ok_ssetO, ok_put, ok_putT, ok_puts0, ok_putsC, ok_setNode, ok_mDs0, ok_mDsC, ok_mOs0, ok_mOsC, ok_mPart0, ok_mPart1, ok_mIfs0, ok_mIfsC, okM_ok, okM_stuck, okM_exc, okM_ite, Ty.below, atI_nat, atI_0, atI_1, atI_2, atI_3, atI_4, atI_5, atI_6, atI_7, atI_last, q_dII, q_dSS, q_dBB, q_dNN, q_dTT, q_dNI, q_dIN, q_dSI, q_dIS, q_dIT, q_dTI, q_dNT, q_dTN, q_dST, q_dTS, q_ds0, q_dsC, q_dsL, q_dsR, q_fI, q_fB, q_fN, q_fT, q_fS, q_f0, q_fC, q_mVar, q_toDv, q_toDt, q_toDo, q_stOv, q_stOt, q_stOo, q_rvOv, q_rvOt, q_rvOo, q_put, q_addI, q_addT, q_addS, q_subI, q_mulI, q_fdivI, q_modI, q_powI, q_shlI, q_shrI, q_addLtt, q_addLot, q_addLoo, q_neg, q_eq, q_ne, q_eqI, q_eqS, q_eqB, q_eqIB, q_eqBI, q_eqT, q_eqSI, q_eqIS, q_eqIT, q_eqTI, q_eqNI, q_eqIN, q_is, q_isnt, q_isNnon, q_isNint, q_isNbl, q_isNstr, q_isNtup, q_isNref, q_lt, q_gt, q_le, q_leT, q_ge, q_in, q_notin, q_trN, q_trB, q_trI, q_trT, q_trS, q_asB, q_subT, q_subR, q_subO, q_subM, q_nodeO, q_nodeR, q_nodeM, q_cutT, q_cutR, q_revT, q_intOf, q_lstR, q_lstM, q_lstO, q_lenT, q_lenS, q_lenR, q_lenO, q_lenM, q_abs, q_intI, q_intB, q_allM, q_anyM, q_sumM, q_tupT, q_tupM, q_tupO, q_tupR, q_listT, q_listM, q_listR, q_listO, q_isi, q_tyN, q_tyB, q_tyI, q_tyS, q_tyT, q_tyR, q_metOk, q_append, q_pop, q_popI, q_setO, q_setR, q_putO, q_walkT, q_walkM, q_walkR, q_walkO, q_setN, q_setM, q_setV, q_setlO, q_rng1, q_rng2, q_settV, q_settT, q_settO, q_opdV, q_opdN, q_addO, q_appL, q_popL, q_sortT, q_sortM, q_sortR, q_sortO, q_sset, q_max, q_min, q_mulT, q_cutO, q_cutM, q_enT, q_enM, q_inIT, q_inTT, q_inIR, q_eqMM, q_extend, q_insert, q_extL, q_insL, q_allO, q_allR, q_anyO, q_anyR, q_sumO, q_sumR, gc_same]
  · rw [List.concat_eq_append] at *
    have hx := hp x (by simp)
    have hq : ∀ y ∈ qs, fl y := fun y hy => hp y (by simp [hy])
    have hsum : wts qs + wt x = n := by rw [← hn, wts_app]; simp [wts]
    have hwx := wt_pos x
    have done : ∀ (x5 : Slot), ∃ m, m < n ∧ I m ⟨[.val d, .val d, .own (.lst (qs.map pr)), .val x, .val x, x5], h⟩ := fun x5 => ⟨wts qs, by omega, (hI _ _).mpr ⟨qs, _, _, _, hq, rfl, by omega, rfl⟩⟩
    have hpos : (0 : Int) < (qs.length : Int) + 1 := by omega
    cases x with
    | non => simp [fn_mkF, semSs, semS, sems, sem, mean, ok_seq, ok_thenN, ok_drop, ok_mRet, ok_mPar, ok_bind', ok_bind, ok_pure, ok_pure', ok_val, ok_tmp, ok_bl, ok_ite, ok_call, ok_lc, ok_lc2, ok_op2, ok_cmp, ok_truth, ok_subO, ok_cutO, ok_revO, ok_negO, ok_intOf, ok_bi, ok_meth, ok_metOk, ok_putO, ok_isi, ok_mVar, ok_toD, ok_stO, ok_rvO, ok_asB, ok_settle, ok_mRng, ok_walkO, ok_enumO, ok_ssetO, ok_put, ok_putT, ok_puts0, ok_putsC, ok_setNode, ok_mDs0, ok_mDsC, ok_mOs0, ok_mOsC, ok_mPart0, ok_mPart1, ok_mIfs0, ok_mIfsC, okM_ok, okM_stuck, okM_exc, okM_ite, Ty.below, atI_nat, atI_0, atI_1, atI_2, atI_3, atI_4, atI_5, atI_6, atI_7, atI_last, q_dII, q_dSS, q_dBB, q_dNN, q_dTT, q_dNI, q_dIN, q_dSI, q_dIS, q_dIT, q_dTI, q_dNT, q_dTN, q_dST, q_dTS, q_ds0, q_dsC, q_dsL, q_dsR, q_fI, q_fB, q_fN, q_fT, q_fS, q_f0, q_fC, q_mVar, q_toDv, q_toDt, q_toDo, q_stOv, q_stOt, q_stOo, q_rvOv, q_rvOt, q_rvOo, q_put, q_addI, q_addT, q_addS, q_subI, q_mulI, q_fdivI, q_modI, q_powI, q_shlI, q_shrI, q_addLtt, q_addLot, q_addLoo, q_neg, q_eq, q_ne, q_eqI, q_eqS, q_eqB, q_eqIB, q_eqBI, q_eqT, q_eqSI, q_eqIS, q_eqIT, q_eqTI, q_eqNI, q_eqIN, q_is, q_isnt, q_isNnon, q_isNint, q_isNbl, q_isNstr, q_isNtup, q_isNref, q_lt, q_gt, q_le, q_leT, q_ge, q_in, q_notin, q_trN, q_trB, q_trI, q_trT, q_trS, q_asB, q_subT, q_subR, q_subO, q_subM, q_nodeO, q_nodeR, q_nodeM, q_cutT, q_cutR, q_revT, q_intOf, q_lstR, q_lstM, q_lstO, q_lenT, q_lenS, q_lenR, q_lenO, q_lenM, q_abs, q_intI, q_intB, q_allM, q_anyM, q_sumM, q_tupT, q_tupM, q_tupO, q_tupR, q_listT, q_listM, q_listR, q_listO, q_isi, q_tyN, q_tyB, q_tyI, q_tyS, q_tyT, q_tyR, q_metOk, q_append, q_pop, q_popI, q_setO, q_setR, q_putO, q_walkT, q_walkM, q_walkR, q_walkO, q_setN, q_setM, q_setV, q_setlO, q_rng1, q_rng2, q_settV, q_settT, q_settO, q_opdV, q_opdN, q_addO, q_appL, q_popL, q_sortT, q_sortM, q_sortR, q_sortO, q_sset, q_max, q_min, q_mulT, q_cutO, q_cutM, q_enT, q_enM, q_inIT, q_inTT, q_inIR, q_eqMM, q_extend, q_insert, q_extL, q_insL, q_allO, q_allR, q_anyO, q_anyR, q_sumO, q_sumR, gc_same, hpos, pr]; exact done _
    | bl b => simp [fn_mkF, semSs, semS, sems, sem, mean, ok_seq, ok_thenN, ok_drop, ok_mRet, ok_mPar, ok_bind', ok_bind, ok_pure, ok_pure', ok_val, ok_tmp, ok_bl, ok_ite, ok_call, ok_lc, ok_lc2, ok_op2, ok_cmp, ok_truth, ok_subO, ok_cutO, ok_revO, ok_negO, ok_intOf, ok_bi, ok_meth, ok_metOk, ok_putO, ok_isi, ok_mVar, ok_toD, ok_stO, ok_rvO, ok_asB, ok_settle, ok_mRng, ok_walkO, ok_enumO, ok_ssetO, ok_put, ok_putT, ok_puts0, ok_putsC, ok_setNode, ok_mDs0, ok_mDsC, ok_mOs0, ok_mOsC, ok_mPart0, ok_mPart1, ok_mIfs0, ok_mIfsC, okM_ok, okM_stuck, okM_exc, okM_ite, Ty.below, atI_nat, atI_0, atI_1, atI_2, atI_3, atI_4, atI_5, atI_6, atI_7, atI_last, q_dII, q_dSS, q_dBB, q_dNN, q_dTT, q_dNI, q_dIN, q_dSI, q_dIS, q_dIT, q_dTI, q_dNT, q_dTN, q_dST, q_dTS, q_ds0, q_dsC, q_dsL, q_dsR, q_fI, q_fB, q_fN, q_fT, q_fS, q_f0, q_fC, q_mVar, q_toDv, q_toDt, q_toDo, q_stOv, q_stOt, q_stOo, q_rvOv, q_rvOt, q_rvOo, q_put, q_addI, q_addT, q_addS, q_subI, q_mulI, q_fdivI, q_modI, q_powI, q_shlI, q_shrI, q_addLtt, q_addLot, q_addLoo, q_neg, q_eq, q_ne, q_eqI, q_eqS, q_eqB, q_eqIB, q_eqBI, q_eqT, q_eqSI, q_eqIS, q_eqIT, q_eqTI, q_eqNI, q_eqIN, q_is, q_isnt, q_isNnon, q_isNint, q_isNbl, q_isNstr, q_isNtup, q_isNref, q_lt, q_gt, q_le, q_leT, q_ge, q_in, q_notin, q_trN, q_trB, q_trI, q_trT, q_trS, q_asB, q_subT, q_subR, q_subO, q_subM, q_nodeO, q_nodeR, q_nodeM, q_cutT, q_cutR, q_revT, q_intOf, q_lstR, q_lstM, q_lstO, q_lenT, q_lenS, q_lenR, q_lenO, q_lenM, q_abs, q_intI, q_intB, q_allM, q_anyM, q_sumM, q_tupT, q_tupM, q_tupO, q_tupR, q_listT, q_listM, q_listR, q_listO, q_isi, q_tyN, q_tyB, q_tyI, q_tyS, q_tyT, q_tyR, q_metOk, q_append, q_pop, q_popI, q_setO, q_setR, q_putO, q_walkT, q_walkM, q_walkR, q_walkO, q_setN, q_setM, q_setV, q_setlO, q_rng1, q_rng2, q_settV, q_settT, q_settO, q_opdV, q_opdN, q_addO, q_appL, q_popL, q_sortT, q_sortM, q_sortR, q_sortO, q_sset, q_max, q_min, q_mulT, q_cutO, q_cutM, q_enT, q_enM, q_inIT, q_inTT, q_inIR, q_eqMM, q_extend, q_insert, q_extL, q_insL, q_allO, q_allR, q_anyO, q_anyR, q_sumO, q_sumR, gc_same, hpos, pr]; exact done _
    | int i => simp [fn_mkF, semSs, semS, sems, sem, mean, ok_seq, ok_thenN, ok_drop, ok_mRet, ok_mPar, ok_bind', ok_bind, ok_pure, ok_pure', ok_val, ok_tmp, ok_bl, ok_ite, ok_call, ok_lc, ok_lc2, ok_op2, ok_cmp, ok_truth, ok_subO, ok_cutO, ok_revO, ok_negO, ok_intOf, ok_bi, ok_meth, ok_metOk, ok_putO, ok_isi, ok_mVar, ok_toD, ok_stO, ok_rvO, ok_asB, ok_settle, ok_mRng, ok_walkO, ok_enumO, ok_ssetO, ok_put, ok_putT, ok_puts0, ok_putsC, ok_setNode, ok_mDs0, ok_mDsC, ok_mOs0, ok_mOsC, ok_mPart0, ok_mPart1, ok_mIfs0, ok_mIfsC, okM_ok, okM_stuck, okM_exc, okM_ite, Ty.below, atI_nat, atI_0, atI_1, atI_2, atI_3, atI_4, atI_5, atI_6, atI_7, atI_last, q_dII, q_dSS, q_dBB, q_dNN, q_dTT, q_dNI, q_dIN, q_dSI, q_dIS, q_dIT, q_dTI, q_dNT, q_dTN, q_dST, q_dTS, q_ds0, q_dsC, q_dsL, q_dsR, q_fI, q_fB, q_fN, q_fT, q_fS, q_f0, q_fC, q_mVar, q_toDv, q_toDt, q_toDo, q_stOv, q_stOt, q_stOo, q_rvOv, q_rvOt, q_rvOo, q_put, q_addI, q_addT, q_addS, q_subI, q_mulI, q_fdivI, q_modI, q_powI, q_shlI, q_shrI, q_addLtt, q_addLot, q_addLoo, q_neg, q_eq, q_ne, q_eqI, q_eqS, q_eqB, q_eqIB, q_eqBI, q_eqT, q_eqSI, q_eqIS, q_eqIT, q_eqTI, q_eqNI, q_eqIN, q_is, q_isnt, q_isNnon, q_isNint, q_isNbl, q_isNstr, q_isNtup, q_isNref, q_lt, q_gt, q_le, q_leT, q_ge, q_in, q_notin, q_trN, q_trB, q_trI, q_trT, q_trS, q_asB, q_subT, q_subR, q_subO, q_subM, q_nodeO, q_nodeR, q_nodeM, q_cutT, q_cutR, q_revT, q_intOf, q_lstR, q_lstM, q_lstO, q_lenT, q_lenS, q_lenR, q_lenO, q_lenM, q_abs, q_intI, q_intB, q_allM, q_anyM, q_sumM, q_tupT, q_tupM, q_tupO, q_tupR, q_listT, q_listM, q_listR, q_listO, q_isi, q_tyN, q_tyB, q_tyI, q_tyS, q_tyT, q_tyR, q_metOk, q_append, q_pop, q_popI, q_setO, q_setR, q_putO, q_walkT, q_walkM, q_walkR, q_walkO, q_setN, q_setM, q_setV, q_setlO, q_rng1, q_rng2, q_settV, q_settT, q_settO, q_opdV, q_opdN, q_addO, q_appL, q_popL, q_sortT, q_sortM, q_sortR, q_sortO, q_sset, q_max, q_min, q_mulT, q_cutO, q_cutM, q_enT, q_enM, q_inIT, q_inTT, q_inIR, q_eqMM, q_extend, q_insert, q_extL, q_insL, q_allO, q_allR, q_anyO, q_anyR, q_sumO, q_sumR, gc_same, hpos, pr]; exact done _
    | str x => simp [fn_mkF, semSs, semS, sems, sem, mean, ok_seq, ok_thenN, ok_drop, ok_mRet, ok_mPar, ok_bind', ok_bind, ok_pure, ok_pure', ok_val, ok_tmp, ok_bl, ok_ite, ok_call, ok_lc, ok_lc2, ok_op2, ok_cmp, ok_truth, ok_subO, ok_cutO, ok_revO, ok_negO, ok_intOf, ok_bi, ok_meth, ok_metOk, ok_putO, ok_isi, ok_mVar, ok_toD, ok_stO, ok_rvO, ok_asB, ok_settle, ok_mRng, ok_walkO, ok_enumO, ok_ssetO, ok_put, ok_putT, ok_puts0, ok_putsC, ok_setNode, ok_mDs0, ok_mDsC, ok_mOs0, ok_mOsC, ok_mPart0, ok_mPart1, ok_mIfs0, ok_mIfsC, okM_ok, okM_stuck, okM_exc, okM_ite, Ty.below, atI_nat, atI_0, atI_1, atI_2, atI_3, atI_4, atI_5, atI_6, atI_7, atI_last, q_dII, q_dSS, q_dBB, q_dNN, q_dTT, q_dNI, q_dIN, q_dSI, q_dIS, q_dIT, q_dTI, q_dNT, q_dTN, q_dST, q_dTS, q_ds0, q_dsC, q_dsL, q_dsR, q_fI, q_fB, q_fN, q_fT, q_fS, q_f0, q_fC, q_mVar, q_toDv, q_toDt, q_toDo, q_stOv, q_stOt, q_stOo, q_rvOv, q_rvOt, q_rvOo, q_put, q_addI, q_addT, q_addS, q_subI, q_mulI, q_fdivI, q_modI, q_powI, q_shlI, q_shrI, q_addLtt, q_addLot, q_addLoo, q_neg, q_eq, q_ne, q_eqI, q_eqS, q_eqB, q_eqIB, q_eqBI, q_eqT, q_eqSI, q_eqIS, q_eqIT, q_eqTI, q_eqNI, q_eqIN, q_is, q_isnt, q_isNnon, q_isNint, q_isNbl, q_isNstr, q_isNtup, q_isNref, q_lt, q_gt, q_le, q_leT, q_ge, q_in, q_notin, q_trN, q_trB, q_trI, q_trT, q_trS, q_asB, q_subT, q_subR, q_subO, q_subM, q_nodeO, q_nodeR, q_nodeM, q_cutT, q_cutR, q_revT, q_intOf, q_lstR, q_lstM, q_lstO, q_lenT, q_lenS, q_lenR, q_lenO, q_lenM, q_abs, q_intI, q_intB, q_allM, q_anyM, q_sumM, q_tupT, q_tupM, q_tupO, q_tupR, q_listT, q_listM, q_listR, q_listO, q_isi, q_tyN, q_tyB, q_tyI, q_tyS, q_tyT, q_tyR, q_metOk, q_append, q_pop, q_popI, q_setO, q_setR, q_putO, q_walkT, q_walkM, q_walkR, q_walkO, q_setN, q_setM, q_setV, q_setlO, q_rng1, q_rng2, q_settV, q_settT, q_settO, q_opdV, q_opdN, q_addO, q_appL, q_popL, q_sortT, q_sortM, q_sortR, q_sortO, q_sset, q_max, q_min, q_mulT, q_cutO, q_cutM, q_enT, q_enM, q_inIT, q_inTT, q_inIR, q_eqMM, q_extend, q_insert, q_extL, q_insL, q_allO, q_allR, q_anyO, q_anyR, q_sumO, q_sumR, gc_same, hpos, pr]; exact done _
    | ref l => obtain ⟨k, hk⟩ := hx; simp [D.flat] at hk
    | tup xs =>
      have hxs := fl_tup hx
      have hwt : wts qs + wts xs + 1 = n := by rw [← hsum]; simp [wt]; omega
      have hl2 := wts_len xs
      have hl3 := wts_len qs
      have hsm : small (xs.length : Int) := ⟨by omega, by omega⟩
      simp [fn_mkF, semSs, semS, sems, sem, mean, ok_seq, ok_thenN, ok_drop, ok_mRet, ok_mPar, ok_bind', ok_bind, ok_pure, ok_pure', ok_val, ok_tmp, ok_bl, ok_ite, ok_call, ok_lc, ok_lc2, ok_op2, ok_cmp, ok_truth, ok_subO, ok_cutO, ok_revO, ok_negO, ok_intOf, ok_bi, ok_meth, ok_metOk, ok_putO, ok_isi, ok_mVar, ok_toD, ok_stO, ok_rvO, ok_asB, ok_settle, ok_mRng, ok_walkO, ok_enumO, ok_ssetO, ok_put, ok_putT, ok_puts0, ok_putsC, ok_setNode, ok_mDs0, ok_mDsC, ok_mOs0, ok_mOsC, ok_mPart0, ok_mPart1, ok_mIfs0, ok_mIfsC, okM_ok, okM_stuck, okM_exc, okM_ite, Ty.below, atI_nat, atI_0, atI_1, atI_2, atI_3, atI_4, atI_5, atI_6, atI_7, atI_last, q_dII, q_dSS, q_dBB, q_dNN, q_dTT, q_dNI, q_dIN, q_dSI, q_dIS, q_dIT, q_dTI, q_dNT, q_dTN, q_dST, q_dTS, q_ds0, q_dsC, q_dsL, q_dsR, q_fI, q_fB, q_fN, q_fT, q_fS, q_f0, q_fC, q_mVar, q_toDv, q_toDt, q_toDo, q_stOv, q_stOt, q_stOo, q_rvOv, q_rvOt, q_rvOo, q_put, q_addI, q_addT, q_addS, q_subI, q_mulI, q_fdivI, q_modI, q_powI, q_shlI, q_shrI, q_addLtt, q_addLot, q_addLoo, q_neg, q_eq, q_ne, q_eqI, q_eqS, q_eqB, q_eqIB, q_eqBI, q_eqT, q_eqSI, q_eqIS, q_eqIT, q_eqTI, q_eqNI, q_eqIN, q_is, q_isnt, q_isNnon, q_isNint, q_isNbl, q_isNstr, q_isNtup, q_isNref, q_lt, q_gt, q_le, q_leT, q_ge, q_in, q_notin, q_trN, q_trB, q_trI, q_trT, q_trS, q_asB, q_subT, q_subR, q_subO, q_subM, q_nodeO, q_nodeR, q_nodeM, q_cutT, q_cutR, q_revT, q_intOf, q_lstR, q_lstM, q_lstO, q_lenT, q_lenS, q_lenR, q_lenO, q_lenM, q_abs, q_intI, q_intB, q_allM, q_anyM, q_sumM, q_tupT, q_tupM, q_tupO, q_tupR, q_listT, q_listM, q_listR, q_listO, q_isi, q_tyN, q_tyB, q_tyI, q_tyS, q_tyT, q_tyR, q_metOk, q_append, q_pop, q_popI, q_setO, q_setR, q_putO, q_walkT, q_walkM, q_walkR, q_walkO, q_setN, q_setM, q_setV, q_setlO, q_rng1, q_rng2, q_settV, q_settT, q_settO, q_opdV, q_opdN, q_addO, q_appL, q_popL, q_sortT, q_sortM, q_sortR, q_sortO, q_sset, q_max, q_min, q_mulT, q_cutO, q_cutM, q_enT, q_enM, q_inIT, q_inTT, q_inIR, q_eqMM, q_extend, q_insert, q_extL, q_insL, q_allO, q_allR, q_anyO, q_anyR, q_sumO, q_sumR, gc_same, hpos, pr, hsm]
      obtain ⟨I2, hI2⟩ : ∃ I2 : List D → St → Prop, ∀ ds s, I2 ds s ↔ ∃ (i : Nat) (x5 : Slot), i ≤ xs.length ∧ ds = (upD 0 xs.length).drop i ∧ s = ⟨[.val d, .val d, .own (.lst ((qs ++ xs.take i).map pr)), .val (.tup xs), .val (.tup xs), x5], h⟩ := ⟨_, fun _ _ => Iff.rfl⟩
      refine ok_for I2 ?_ ?_ _ _ ((hI2 _ _).mpr ⟨0, x5, Nat.zero_le _, by simp, by simp [pr]⟩)
      · intro e ds s hs2
        obtain ⟨i, x5, hi, hds, rfl⟩ := (hI2 _ _).mp hs2
        obtain ⟨hin, rfl, rfl⟩ := upD_drop hds.symm
        refine ⟨same_none, ?_⟩
        have hget : xs[i]? = some xs[i] := List.getElem?_eq_getElem hin
        have hlt2 : qs.length + min i xs.length < lim := by omega
        simp [fn_mkF, semSs, semS, sems, sem, mean, ok_seq, ok_thenN, ok_drop, ok_mRet, ok_mPar, ok_bind', ok_bind, ok_pure, ok_pure', ok_val, ok_tmp, ok_bl, ok_ite, ok_call, ok_lc, ok_lc2, ok_op2, ok_cmp, ok_truth, ok_subO, ok_cutO, ok_revO, ok_negO, ok_intOf, ok_bi, ok_meth, ok_metOk, ok_putO, ok_isi, ok_mVar, ok_toD, ok_stO, ok_rvO, ok_asB, ok_settle, ok_mRng, ok_walkO, ok_enumO, ok_ssetO, ok_put, ok_putT, ok_puts0, ok_putsC, ok_setNode, ok_mDs0, ok_mDsC, ok_mOs0, ok_mOsC, ok_mPart0, ok_mPart1, ok_mIfs0, ok_mIfsC, okM_ok, okM_stuck, okM_exc, okM_ite, Ty.below, atI_nat, atI_0, atI_1, atI_2, atI_3, atI_4, atI_5, atI_6, atI_7, atI_last, q_dII, q_dSS, q_dBB, q_dNN, q_dTT, q_dNI, q_dIN, q_dSI, q_dIS, q_dIT, q_dTI, q_dNT, q_dTN, q_dST, q_dTS, q_ds0, q_dsC, q_dsL, q_dsR, q_fI, q_fB, q_fN, q_fT, q_fS, q_f0, q_fC, q_mVar, q_toDv, q_toDt, q_toDo, q_stOv, q_stOt, q_stOo, q_rvOv, q_rvOt, q_rvOo, q_put, q_addI, q_addT, q_addS, q_subI, q_mulI, q_fdivI, q_modI, q_powI, q_shlI, q_shrI, q_addLtt, q_addLot, q_addLoo, q_neg, q_eq, q_ne, q_eqI, q_eqS, q_eqB, q_eqIB, q_eqBI, q_eqT, q_eqSI, q_eqIS, q_eqIT, q_eqTI, q_eqNI, q_eqIN, q_is, q_isnt, q_isNnon, q_isNint, q_isNbl, q_isNstr, q_isNtup, q_isNref, q_lt, q_gt, q_le, q_leT, q_ge, q_in, q_notin, q_trN, q_trB, q_trI, q_trT, q_trS, q_asB, q_subT, q_subR, q_subO, q_subM, q_nodeO, q_nodeR, q_nodeM, q_cutT, q_cutR, q_revT, q_intOf, q_lstR, q_lstM, q_lstO, q_lenT, q_lenS, q_lenR, q_lenO, q_lenM, q_abs, q_intI, q_intB, q_allM, q_anyM, q_sumM, q_tupT, q_tupM, q_tupO, q_tupR, q_listT, q_listM, q_listR, q_listO, q_isi, q_tyN, q_tyB, q_tyI, q_tyS, q_tyT, q_tyR, q_metOk, q_append, q_pop, q_popI, q_setO, q_setR, q_putO, q_walkT, q_walkM, q_walkR, q_walkO, q_setN, q_setM, q_setV, q_setlO, q_rng1, q_rng2, q_settV, q_settT, q_settO, q_opdV, q_opdN, q_addO, q_appL, q_popL, q_sortT, q_sortM, q_sortR, q_sortO, q_sset, q_max, q_min, q_mulT, q_cutO, q_cutM, q_enT, q_enM, q_inIT, q_inTT, q_inIR, q_eqMM, q_extend, q_insert, q_extL, q_insL, q_allO, q_allR, q_anyO, q_anyR, q_sumO, q_sumR, hget, hlt2]
        refine (hI2 _ _).mpr ⟨i + 1, .val (.int i), by omega, rfl, ?_⟩
        have e : (qs ++ xs.take (i + 1)).map pr = (qs ++ xs.take i).map pr ++ [pr xs[i]] := by
          rw [List.take_add_one, hget]
          simp only [Option.toList, List.map_append, List.append_assoc, List.map_cons, List.map_nil]
        rw [e]
        simp [pr]
      · intro s hs2
        obtain ⟨i, x5, hi, hds, rfl⟩ := (hI2 _ _).mp hs2
        refine ⟨same_none, ?_⟩
        have hie : i = xs.length := by
          have := congrArg List.length hds
          simp [upD] at this
          omega
        subst hie
        refine ⟨wts qs + wts xs, by omega, (hI _ _).mpr ⟨qs ++ xs, .val (.tup xs), .val (.tup xs), x5, ?_, wts_app _ _, by omega, by simp⟩⟩
        intro y hy
        rcases List.mem_append.mp hy with hy | hy
        · exact hq y hy
        · exact hxs y hy
/-- lots below many, numbers at most top -/
def Sen.ok (many top : Int) : Sen → Prop
  | .all a b => (0 ≤ a ∧ a < many) ∧ 0 ≤ b ∧ b < many
  | .som a b => (0 ≤ a ∧ a < many) ∧ 0 ≤ b ∧ b < many
  | .lea a n => (0 ≤ a ∧ a < many) ∧ 0 ≤ n ∧ n ≤ top
  | .mor a b n => (0 ≤ a ∧ a < many) ∧ (0 ≤ b ∧ b < many) ∧ 0 ≤ n ∧ n ≤ top
def SenSp (R : Jr) (f : FnD) : Prop := ∀ {h : List Node} {many most : Int} {Q : RV → List Node → Prop}, R.ok h → 0 < many → many < 2 ^ 61 → 0 ≤ most → most < 2 ^ 61 →
  (∀ s h', s.ok many (if most < 1 then 1 else most) → Keep R h h' → h'.length = h.length → Q (.val (Sen.d s)) h') → Fn f [.ref R.at_, .int many, .int most] h Q
def irSentence : ISs := (.cons (.set 3 (.sub (.tup (.cons (.str "all") (.cons (.str "all") (.cons (.str "some") (.cons (.str "least") (.cons (.str "more") (.cons (.str "more") .nil))))))) (.call 1312 (.cons (.var 0) (.cons (.int 6) .nil)))))
  (.cons (.par 4 5 (.call 1312 (.cons (.var 0) (.cons (.var 1) .nil))) (.call 1312 (.cons (.var 0) (.cons (.var 1) .nil))))
  (.cons (.set 6 (.sub (.tup (.cons (.int 0) (.cons (.int 1) (.cons (.var 2) (.cons (.call 1312 (.cons (.var 0) (.cons (.bin .add (.var 2) (.int 1)) .nil))) .nil))))) (.call 1312 (.cons (.var 0) (.cons (.int 4) .nil)))))
  (.cons (.ife (.cmp .eq (.var 3) (.str "least")) (.cons (.ret (.tup (.cons (.var 3) (.cons (.var 4) (.cons (.var 6) .nil)))))
  .nil) .nil)
  (.cons (.ret (.ife (.cmp .ne (.var 3) (.str "more")) (.tup (.cons (.var 3) (.cons (.var 4) (.cons (.var 5) .nil)))) (.tup (.cons (.var 3) (.cons (.var 4) (.cons (.var 5) (.cons (.var 6) .nil)))))))
  .nil)))))
theorem sentence_sp {R : Jr} {T : Tb} (tk : TakeSp R (T.fn 1312)) : SenSp R (mkF 7 (semSs T irSentence)) := by
  intro h many most Q o h0 h1 h2 h3 q
  simp [irSentence, fn_mkF, semSs, semS, sems, sem, mean, ok_seq, ok_thenN, ok_drop, ok_mRet, ok_mPar, ok_bind', ok_bind, ok_pure, ok_pure', ok_val, ok_tmp, ok_bl, ok_ite, ok_call, ok_lc, ok_lc2, ok_op2, ok_cmp, ok_truth, ok_subO, ok_cutO, ok_revO, ok_negO, ok_intOf, ok_bi, ok_meth, ok_metOk, ok_putO, ok_isi, ok_mVar, ok_toD, ok_stO, ok_rvO, ok_asB, ok_settle, ok_mRng, ok_walkO, ok_enumO, ok_ssetO, ok_put, ok_putT, ok_puts0, ok_putsC, ok_setNode, ok_mDs0, ok_mDsC, ok_mOs0, ok_mOsC, ok_mPart0, ok_mPart1, ok_mIfs0, ok_mIfsC, okM_ok, okM_stuck, okM_exc, okM_ite, Ty.below, atI_nat, atI_0, atI_1, atI_2, atI_3, atI_4, atI_5, atI_6, atI_7, atI_last, q_dII, q_dSS, q_dBB, q_dNN, q_dTT, q_dNI, q_dIN, q_dSI, q_dIS, q_dIT, q_dTI, q_dNT, q_dTN, q_dST, q_dTS, q_ds0, q_dsC, q_dsL, q_dsR, q_fI, q_fB, q_fN, q_fT, q_fS, q_f0, q_fC, q_mVar, q_toDv, q_toDt, q_toDo, q_stOv, q_stOt, q_stOo, q_rvOv, q_rvOt, q_rvOo, q_put, q_addI, q_addT, q_addS, q_subI, q_mulI, q_fdivI, q_modI, q_powI, q_shlI, q_shrI, q_addLtt, q_addLot, q_addLoo, q_neg, q_eq, q_ne, q_eqI, q_eqS, q_eqB, q_eqIB, q_eqBI, q_eqT, q_eqSI, q_eqIS, q_eqIT, q_eqTI, q_eqNI, q_eqIN, q_is, q_isnt, q_isNnon, q_isNint, q_isNbl, q_isNstr, q_isNtup, q_isNref, q_lt, q_gt, q_le, q_leT, q_ge, q_in, q_notin, q_trN, q_trB, q_trI, q_trT, q_trS, q_asB, q_subT, q_subR, q_subO, q_subM, q_nodeO, q_nodeR, q_nodeM, q_cutT, q_cutR, q_revT, q_intOf, q_lstR, q_lstM, q_lstO, q_lenT, q_lenS, q_lenR, q_lenO, q_lenM, q_abs, q_intI, q_intB, q_allM, q_anyM, q_sumM, q_tupT, q_tupM, q_tupO, q_tupR, q_listT, q_listM, q_listR, q_listO, q_isi, q_tyN, q_tyB, q_tyI, q_tyS, q_tyT, q_tyR, q_metOk, q_append, q_pop, q_popI, q_setO, q_setR, q_putO, q_walkT, q_walkM, q_walkR, q_walkO, q_setN, q_setM, q_setV, q_setlO, q_rng1, q_rng2, q_settV, q_settT, q_settO, q_opdV, q_opdN, q_addO, q_appL, q_popL, q_sortT, q_sortM, q_sortR, q_sortO, q_sset, q_max, q_min, q_mulT, q_cutO, q_cutM, q_enT, q_enM, q_inIT, q_inTT, q_inIR, q_eqMM, q_extend, q_insert, q_extL, q_insL, q_allO, q_allR, q_anyO, q_anyR, q_sumO, q_sumR]
  refine tk o (by omega) (by omega) fun k h1' k0 k1 j1 z1 => ?_
  obtain ⟨x, hx, hc⟩ : ∃ x : Str, atI [.str "all", .str "all", .str "some", .str "least", .str "more", .str "more"] k = some (.str x) ∧ (x = "all" ∨ x = "some" ∨ x = "least" ∨ x = "more") := by
    have : k = 0 ∨ k = 1 ∨ k = 2 ∨ k = 3 ∨ k = 4 ∨ k = 5 := by omega
    rcases this with rfl | rfl | rfl | rfl | rfl | rfl
    · exact ⟨_, rfl, .inl rfl⟩
    · exact ⟨_, rfl, .inl rfl⟩
    · exact ⟨_, rfl, .inr (.inl rfl)⟩
    · exact ⟨_, rfl, .inr (.inr (.inl rfl))⟩
    · exact ⟨_, rfl, .inr (.inr (.inr rfl))⟩
    · exact ⟨_, rfl, .inr (.inr (.inr rfl))⟩
  simp [fn_mkF, semSs, semS, sems, sem, mean, ok_seq, ok_thenN, ok_drop, ok_mRet, ok_mPar, ok_bind', ok_bind, ok_pure, ok_pure', ok_val, ok_tmp, ok_bl, ok_ite, ok_call, ok_lc, ok_lc2, ok_op2, ok_cmp, ok_truth, ok_subO, ok_cutO, ok_revO, ok_negO, ok_intOf, ok_bi, ok_meth, ok_metOk, ok_putO, ok_isi, ok_mVar, ok_toD, ok_stO, ok_rvO, ok_asB, ok_settle, ok_mRng, ok_walkO, ok_enumO, ok_ssetO, ok_put, ok_putT, ok_puts0, ok_putsC, ok_setNode, ok_mDs0, ok_mDsC, ok_mOs0, ok_mOsC, ok_mPart0, ok_mPart1, ok_mIfs0, ok_mIfsC, okM_ok, okM_stuck, okM_exc, okM_ite, Ty.below, atI_nat, atI_0, atI_1, atI_2, atI_3, atI_4, atI_5, atI_6, atI_7, atI_last, q_dII, q_dSS, q_dBB, q_dNN, q_dTT, q_dNI, q_dIN, q_dSI, q_dIS, q_dIT, q_dTI, q_dNT, q_dTN, q_dST, q_dTS, q_ds0, q_dsC, q_dsL, q_dsR, q_fI, q_fB, q_fN, q_fT, q_fS, q_f0, q_fC, q_mVar, q_toDv, q_toDt, q_toDo, q_stOv, q_stOt, q_stOo, q_rvOv, q_rvOt, q_rvOo, q_put, q_addI, q_addT, q_addS, q_subI, q_mulI, q_fdivI, q_modI, q_powI, q_shlI, q_shrI, q_addLtt, q_addLot, q_addLoo, q_neg, q_eq, q_ne, q_eqI, q_eqS, q_eqB, q_eqIB, q_eqBI, q_eqT, q_eqSI, q_eqIS, q_eqIT, q_eqTI, q_eqNI, q_eqIN, q_is, q_isnt, q_isNnon, q_isNint, q_isNbl, q_isNstr, q_isNtup, q_isNref, q_lt, q_gt, q_le, q_leT, q_ge, q_in, q_notin, q_trN, q_trB, q_trI, q_trT, q_trS, q_asB, q_subT, q_subR, q_subO, q_subM, q_nodeO, q_nodeR, q_nodeM, q_cutT, q_cutR, q_revT, q_intOf, q_lstR, q_lstM, q_lstO, q_lenT, q_lenS, q_lenR, q_lenO, q_lenM, q_abs, q_intI, q_intB, q_allM, q_anyM, q_sumM, q_tupT, q_tupM, q_tupO, q_tupR, q_listT, q_listM, q_listR, q_listO, q_isi, q_tyN, q_tyB, q_tyI, q_tyS, q_tyT, q_tyR, q_metOk, q_append, q_pop, q_popI, q_setO, q_setR, q_putO, q_walkT, q_walkM, q_walkR, q_walkO, q_setN, q_setM, q_setV, q_setlO, q_rng1, q_rng2, q_settV, q_settT, q_settO, q_opdV, q_opdN, q_addO, q_appL, q_popL, q_sortT, q_sortM, q_sortR, q_sortO, q_sset, q_max, q_min, q_mulT, q_cutO, q_cutM, q_enT, q_enM, q_inIT, q_inTT, q_inIR, q_eqMM, q_extend, q_insert, q_extL, q_insL, q_allO, q_allR, q_anyO, q_anyR, q_sumO, q_sumR, hx]
  refine tk j1.ok h0 (by omega) fun a h2' a0 a1 j2 z2 => ?_
  simp [fn_mkF, semSs, semS, sems, sem, mean, ok_seq, ok_thenN, ok_drop, ok_mRet, ok_mPar, ok_bind', ok_bind, ok_pure, ok_pure', ok_val, ok_tmp, ok_bl, ok_ite, ok_call, ok_lc, ok_lc2, ok_op2, ok_cmp, ok_truth, ok_subO, ok_cutO, ok_revO, ok_negO, ok_intOf, ok_bi, ok_meth, ok_metOk, ok_putO, ok_isi, ok_mVar, ok_toD, ok_stO, ok_rvO, ok_asB, ok_settle, ok_mRng, ok_walkO, ok_enumO, ok_ssetO, ok_put, ok_putT, ok_puts0, ok_putsC, ok_setNode, ok_mDs0, ok_mDsC, ok_mOs0, ok_mOsC, ok_mPart0, ok_mPart1, ok_mIfs0, ok_mIfsC, okM_ok, okM_stuck, okM_exc, okM_ite, Ty.below, atI_nat, atI_0, atI_1, atI_2, atI_3, atI_4, atI_5, atI_6, atI_7, atI_last, q_dII, q_dSS, q_dBB, q_dNN, q_dTT, q_dNI, q_dIN, q_dSI, q_dIS, q_dIT, q_dTI, q_dNT, q_dTN, q_dST, q_dTS, q_ds0, q_dsC, q_dsL, q_dsR, q_fI, q_fB, q_fN, q_fT, q_fS, q_f0, q_fC, q_mVar, q_toDv, q_toDt, q_toDo, q_stOv, q_stOt, q_stOo, q_rvOv, q_rvOt, q_rvOo, q_put, q_addI, q_addT, q_addS, q_subI, q_mulI, q_fdivI, q_modI, q_powI, q_shlI, q_shrI, q_addLtt, q_addLot, q_addLoo, q_neg, q_eq, q_ne, q_eqI, q_eqS, q_eqB, q_eqIB, q_eqBI, q_eqT, q_eqSI, q_eqIS, q_eqIT, q_eqTI, q_eqNI, q_eqIN, q_is, q_isnt, q_isNnon, q_isNint, q_isNbl, q_isNstr, q_isNtup, q_isNref, q_lt, q_gt, q_le, q_leT, q_ge, q_in, q_notin, q_trN, q_trB, q_trI, q_trT, q_trS, q_asB, q_subT, q_subR, q_subO, q_subM, q_nodeO, q_nodeR, q_nodeM, q_cutT, q_cutR, q_revT, q_intOf, q_lstR, q_lstM, q_lstO, q_lenT, q_lenS, q_lenR, q_lenO, q_lenM, q_abs, q_intI, q_intB, q_allM, q_anyM, q_sumM, q_tupT, q_tupM, q_tupO, q_tupR, q_listT, q_listM, q_listR, q_listO, q_isi, q_tyN, q_tyB, q_tyI, q_tyS, q_tyT, q_tyR, q_metOk, q_append, q_pop, q_popI, q_setO, q_setR, q_putO, q_walkT, q_walkM, q_walkR, q_walkO, q_setN, q_setM, q_setV, q_setlO, q_rng1, q_rng2, q_settV, q_settT, q_settO, q_opdV, q_opdN, q_addO, q_appL, q_popL, q_sortT, q_sortM, q_sortR, q_sortO, q_sset, q_max, q_min, q_mulT, q_cutO, q_cutM, q_enT, q_enM, q_inIT, q_inTT, q_inIR, q_eqMM, q_extend, q_insert, q_extL, q_insL, q_allO, q_allR, q_anyO, q_anyR, q_sumO, q_sumR]
  refine tk j2.ok h0 (by omega) fun b h3' b0 b1 j3 z3 => ?_
  simp [fn_mkF, semSs, semS, sems, sem, mean, ok_seq, ok_thenN, ok_drop, ok_mRet, ok_mPar, ok_bind', ok_bind, ok_pure, ok_pure', ok_val, ok_tmp, ok_bl, ok_ite, ok_call, ok_lc, ok_lc2, ok_op2, ok_cmp, ok_truth, ok_subO, ok_cutO, ok_revO, ok_negO, ok_intOf, ok_bi, ok_meth, ok_metOk, ok_putO, ok_isi, ok_mVar, ok_toD, ok_stO, ok_rvO, ok_asB, ok_settle, ok_mRng, ok_walkO, ok_enumO, ok_ssetO, ok_put, ok_putT, ok_puts0, ok_putsC, ok_setNode, ok_mDs0, ok_mDsC, ok_mOs0, ok_mOsC, ok_mPart0, ok_mPart1, ok_mIfs0, ok_mIfsC, okM_ok, okM_stuck, okM_exc, okM_ite, Ty.below, atI_nat, atI_0, atI_1, atI_2, atI_3, atI_4, atI_5, atI_6, atI_7, atI_last, q_dII, q_dSS, q_dBB, q_dNN, q_dTT, q_dNI, q_dIN, q_dSI, q_dIS, q_dIT, q_dTI, q_dNT, q_dTN, q_dST, q_dTS, q_ds0, q_dsC, q_dsL, q_dsR, q_fI, q_fB, q_fN, q_fT, q_fS, q_f0, q_fC, q_mVar, q_toDv, q_toDt, q_toDo, q_stOv, q_stOt, q_stOo, q_rvOv, q_rvOt, q_rvOo, q_put, q_addI, q_addT, q_addS, q_subI, q_mulI, q_fdivI, q_modI, q_powI, q_shlI, q_shrI, q_addLtt, q_addLot, q_addLoo, q_neg, q_eq, q_ne, q_eqI, q_eqS, q_eqB, q_eqIB, q_eqBI, q_eqT, q_eqSI, q_eqIS, q_eqIT, q_eqTI, q_eqNI, q_eqIN, q_is, q_isnt, q_isNnon, q_isNint, q_isNbl, q_isNstr, q_isNtup, q_isNref, q_lt, q_gt, q_le, q_leT, q_ge, q_in, q_notin, q_trN, q_trB, q_trI, q_trT, q_trS, q_asB, q_subT, q_subR, q_subO, q_subM, q_nodeO, q_nodeR, q_nodeM, q_cutT, q_cutR, q_revT, q_intOf, q_lstR, q_lstM, q_lstO, q_lenT, q_lenS, q_lenR, q_lenO, q_lenM, q_abs, q_intI, q_intB, q_allM, q_anyM, q_sumM, q_tupT, q_tupM, q_tupO, q_tupR, q_listT, q_listM, q_listR, q_listO, q_isi, q_tyN, q_tyB, q_tyI, q_tyS, q_tyT, q_tyR, q_metOk, q_append, q_pop, q_popI, q_setO, q_setR, q_putO, q_walkT, q_walkM, q_walkR, q_walkO, q_setN, q_setM, q_setV, q_setlO, q_rng1, q_rng2, q_settV, q_settT, q_settO, q_opdV, q_opdN, q_addO, q_appL, q_popL, q_sortT, q_sortM, q_sortR, q_sortO, q_sset, q_max, q_min, q_mulT, q_cutO, q_cutM, q_enT, q_enM, q_inIT, q_inTT, q_inIR, q_eqMM, q_extend, q_insert, q_extL, q_insL, q_allO, q_allR, q_anyO, q_anyR, q_sumO, q_sumR]
  refine tk j3.ok (by omega) (by omega) fun c h4' c0 c1 j4 z4 => ?_
  simp [fn_mkF, semSs, semS, sems, sem, mean, ok_seq, ok_thenN, ok_drop, ok_mRet, ok_mPar, ok_bind', ok_bind, ok_pure, ok_pure', ok_val, ok_tmp, ok_bl, ok_ite, ok_call, ok_lc, ok_lc2, ok_op2, ok_cmp, ok_truth, ok_subO, ok_cutO, ok_revO, ok_negO, ok_intOf, ok_bi, ok_meth, ok_metOk, ok_putO, ok_isi, ok_mVar, ok_toD, ok_stO, ok_rvO, ok_asB, ok_settle, ok_mRng, ok_walkO, ok_enumO, ok_ssetO, ok_put, ok_putT, ok_puts0, ok_putsC, ok_setNode, ok_mDs0, ok_mDsC, ok_mOs0, ok_mOsC, ok_mPart0, ok_mPart1, ok_mIfs0, ok_mIfsC, okM_ok, okM_stuck, okM_exc, okM_ite, Ty.below, atI_nat, atI_0, atI_1, atI_2, atI_3, atI_4, atI_5, atI_6, atI_7, atI_last, q_dII, q_dSS, q_dBB, q_dNN, q_dTT, q_dNI, q_dIN, q_dSI, q_dIS, q_dIT, q_dTI, q_dNT, q_dTN, q_dST, q_dTS, q_ds0, q_dsC, q_dsL, q_dsR, q_fI, q_fB, q_fN, q_fT, q_fS, q_f0, q_fC, q_mVar, q_toDv, q_toDt, q_toDo, q_stOv, q_stOt, q_stOo, q_rvOv, q_rvOt, q_rvOo, q_put, q_addI, q_addT, q_addS, q_subI, q_mulI, q_fdivI, q_modI, q_powI, q_shlI, q_shrI, q_addLtt, q_addLot, q_addLoo, q_neg, q_eq, q_ne, q_eqI, q_eqS, q_eqB, q_eqIB, q_eqBI, q_eqT, q_eqSI, q_eqIS, q_eqIT, q_eqTI, q_eqNI, q_eqIN, q_is, q_isnt, q_isNnon, q_isNint, q_isNbl, q_isNstr, q_isNtup, q_isNref, q_lt, q_gt, q_le, q_leT, q_ge, q_in, q_notin, q_trN, q_trB, q_trI, q_trT, q_trS, q_asB, q_subT, q_subR, q_subO, q_subM, q_nodeO, q_nodeR, q_nodeM, q_cutT, q_cutR, q_revT, q_intOf, q_lstR, q_lstM, q_lstO, q_lenT, q_lenS, q_lenR, q_lenO, q_lenM, q_abs, q_intI, q_intB, q_allM, q_anyM, q_sumM, q_tupT, q_tupM, q_tupO, q_tupR, q_listT, q_listM, q_listR, q_listO, q_isi, q_tyN, q_tyB, q_tyI, q_tyS, q_tyT, q_tyR, q_metOk, q_append, q_pop, q_popI, q_setO, q_setR, q_putO, q_walkT, q_walkM, q_walkR, q_walkO, q_setN, q_setM, q_setV, q_setlO, q_rng1, q_rng2, q_settV, q_settT, q_settO, q_opdV, q_opdN, q_addO, q_appL, q_popL, q_sortT, q_sortM, q_sortR, q_sortO, q_sset, q_max, q_min, q_mulT, q_cutO, q_cutM, q_enT, q_enM, q_inIT, q_inTT, q_inIR, q_eqMM, q_extend, q_insert, q_extL, q_insL, q_allO, q_allR, q_anyO, q_anyR, q_sumO, q_sumR]
  refine tk j4.ok (by omega) (by omega) fun e h5' e0 e1 j5 z5 => ?_
  have hml : 1 ≤ (if most < 1 then 1 else most) ∧ most ≤ (if most < 1 then 1 else most) := by split <;> omega
  obtain ⟨m, hm, hm0, hm1⟩ : ∃ m : Int, atI [.int 0, .int 1, .int most, .int c] e = some (.int m) ∧ 0 ≤ m ∧ m ≤ (if most < 1 then 1 else most) := by
    have : e = 0 ∨ e = 1 ∨ e = 2 ∨ e = 3 := by omega
    rcases this with rfl | rfl | rfl | rfl <;> exact ⟨_, rfl, by omega, by omega⟩
  have jl : h5'.length ≤ h.length := by omega
  have jk := (((j1.trans j2).trans j3).trans j4).trans j5
  have ja : ((0 ≤ a ∧ a < many) ∧ 0 ≤ b ∧ b < many) := ⟨⟨a0, a1⟩, b0, b1⟩
  simp [fn_mkF, semSs, semS, sems, sem, mean, ok_seq, ok_thenN, ok_drop, ok_mRet, ok_mPar, ok_bind', ok_bind, ok_pure, ok_pure', ok_val, ok_tmp, ok_bl, ok_ite, ok_call, ok_lc, ok_lc2, ok_op2, ok_cmp, ok_truth, ok_subO, ok_cutO, ok_revO, ok_negO, ok_intOf, ok_bi, ok_meth, ok_metOk, ok_putO, ok_isi, ok_mVar, ok_toD, ok_stO, ok_rvO, ok_asB, ok_settle, ok_mRng, ok_walkO, ok_enumO, ok_ssetO, ok_put, ok_putT, ok_puts0, ok_putsC, ok_setNode, ok_mDs0, ok_mDsC, ok_mOs0, ok_mOsC, ok_mPart0, ok_mPart1, ok_mIfs0, ok_mIfsC, okM_ok, okM_stuck, okM_exc, okM_ite, Ty.below, atI_nat, atI_0, atI_1, atI_2, atI_3, atI_4, atI_5, atI_6, atI_7, atI_last, q_dII, q_dSS, q_dBB, q_dNN, q_dTT, q_dNI, q_dIN, q_dSI, q_dIS, q_dIT, q_dTI, q_dNT, q_dTN, q_dST, q_dTS, q_ds0, q_dsC, q_dsL, q_dsR, q_fI, q_fB, q_fN, q_fT, q_fS, q_f0, q_fC, q_mVar, q_toDv, q_toDt, q_toDo, q_stOv, q_stOt, q_stOo, q_rvOv, q_rvOt, q_rvOo, q_put, q_addI, q_addT, q_addS, q_subI, q_mulI, q_fdivI, q_modI, q_powI, q_shlI, q_shrI, q_addLtt, q_addLot, q_addLoo, q_neg, q_eq, q_ne, q_eqI, q_eqS, q_eqB, q_eqIB, q_eqBI, q_eqT, q_eqSI, q_eqIS, q_eqIT, q_eqTI, q_eqNI, q_eqIN, q_is, q_isnt, q_isNnon, q_isNint, q_isNbl, q_isNstr, q_isNtup, q_isNref, q_lt, q_gt, q_le, q_leT, q_ge, q_in, q_notin, q_trN, q_trB, q_trI, q_trT, q_trS, q_asB, q_subT, q_subR, q_subO, q_subM, q_nodeO, q_nodeR, q_nodeM, q_cutT, q_cutR, q_revT, q_intOf, q_lstR, q_lstM, q_lstO, q_lenT, q_lenS, q_lenR, q_lenO, q_lenM, q_abs, q_intI, q_intB, q_allM, q_anyM, q_sumM, q_tupT, q_tupM, q_tupO, q_tupR, q_listT, q_listM, q_listR, q_listO, q_isi, q_tyN, q_tyB, q_tyI, q_tyS, q_tyT, q_tyR, q_metOk, q_append, q_pop, q_popI, q_setO, q_setR, q_putO, q_walkT, q_walkM, q_walkR, q_walkO, q_setN, q_setM, q_setV, q_setlO, q_rng1, q_rng2, q_settV, q_settT, q_settO, q_opdV, q_opdN, q_addO, q_appL, q_popL, q_sortT, q_sortM, q_sortR, q_sortO, q_sset, q_max, q_min, q_mulT, q_cutO, q_cutM, q_enT, q_enM, q_inIT, q_inTT, q_inIR, q_eqMM, q_extend, q_insert, q_extL, q_insL, q_allO, q_allR, q_anyO, q_anyR, q_sumO, q_sumR, hm]
  rcases hc with rfl | rfl | rfl | rfl
  · simp [fn_mkF, semSs, semS, sems, sem, mean, ok_seq, ok_thenN, ok_drop, ok_mRet, ok_mPar, ok_bind', ok_bind, ok_pure, ok_pure', ok_val, ok_tmp, ok_bl, ok_ite, ok_call, ok_lc, ok_lc2, ok_op2, ok_cmp, ok_truth, ok_subO, ok_cutO, ok_revO, ok_negO, ok_intOf, ok_bi, ok_meth, ok_metOk, ok_putO, ok_isi, ok_mVar, ok_toD, ok_stO, ok_rvO, ok_asB, ok_settle, ok_mRng, ok_walkO, ok_enumO, ok_ssetO, ok_put, ok_putT, ok_puts0, ok_putsC, ok_setNode, ok_mDs0, ok_mDsC, ok_mOs0, ok_mOsC, ok_mPart0, ok_mPart1, ok_mIfs0, ok_mIfsC, okM_ok, okM_stuck, okM_exc, okM_ite, Ty.below, atI_nat, atI_0, atI_1, atI_2, atI_3, atI_4, atI_5, atI_6, atI_7, atI_last, q_dII, q_dSS, q_dBB, q_dNN, q_dTT, q_dNI, q_dIN, q_dSI, q_dIS, q_dIT, q_dTI, q_dNT, q_dTN, q_dST, q_dTS, q_ds0, q_dsC, q_dsL, q_dsR, q_fI, q_fB, q_fN, q_fT, q_fS, q_f0, q_fC, q_mVar, q_toDv, q_toDt, q_toDo, q_stOv, q_stOt, q_stOo, q_rvOv, q_rvOt, q_rvOo, q_put, q_addI, q_addT, q_addS, q_subI, q_mulI, q_fdivI, q_modI, q_powI, q_shlI, q_shrI, q_addLtt, q_addLot, q_addLoo, q_neg, q_eq, q_ne, q_eqI, q_eqS, q_eqB, q_eqIB, q_eqBI, q_eqT, q_eqSI, q_eqIS, q_eqIT, q_eqTI, q_eqNI, q_eqIN, q_is, q_isnt, q_isNnon, q_isNint, q_isNbl, q_isNstr, q_isNtup, q_isNref, q_lt, q_gt, q_le, q_leT, q_ge, q_in, q_notin, q_trN, q_trB, q_trI, q_trT, q_trS, q_asB, q_subT, q_subR, q_subO, q_subM, q_nodeO, q_nodeR, q_nodeM, q_cutT, q_cutR, q_revT, q_intOf, q_lstR, q_lstM, q_lstO, q_lenT, q_lenS, q_lenR, q_lenO, q_lenM, q_abs, q_intI, q_intB, q_allM, q_anyM, q_sumM, q_tupT, q_tupM, q_tupO, q_tupR, q_listT, q_listM, q_listR, q_listO, q_isi, q_tyN, q_tyB, q_tyI, q_tyS, q_tyT, q_tyR, q_metOk, q_append, q_pop, q_popI, q_setO, q_setR, q_putO, q_walkT, q_walkM, q_walkR, q_walkO, q_setN, q_setM, q_setV, q_setlO, q_rng1, q_rng2, q_settV, q_settT, q_settO, q_opdV, q_opdN, q_addO, q_appL, q_popL, q_sortT, q_sortM, q_sortR, q_sortO, q_sset, q_max, q_min, q_mulT, q_cutO, q_cutM, q_enT, q_enM, q_inIT, q_inTT, q_inIR, q_eqMM, q_extend, q_insert, q_extL, q_insL, q_allO, q_allR, q_anyO, q_anyR, q_sumO, q_sumR, gc_same jl, -beq_iff_eq, -beq_eq_false_iff_ne, str6, str7]
    exact q (.all a b) h5' ja jk (by omega)
  · simp [fn_mkF, semSs, semS, sems, sem, mean, ok_seq, ok_thenN, ok_drop, ok_mRet, ok_mPar, ok_bind', ok_bind, ok_pure, ok_pure', ok_val, ok_tmp, ok_bl, ok_ite, ok_call, ok_lc, ok_lc2, ok_op2, ok_cmp, ok_truth, ok_subO, ok_cutO, ok_revO, ok_negO, ok_intOf, ok_bi, ok_meth, ok_metOk, ok_putO, ok_isi, ok_mVar, ok_toD, ok_stO, ok_rvO, ok_asB, ok_settle, ok_mRng, ok_walkO, ok_enumO, ok_ssetO, ok_put, ok_putT, ok_puts0, ok_putsC, ok_setNode, ok_mDs0, ok_mDsC, ok_mOs0, ok_mOsC, ok_mPart0, ok_mPart1, ok_mIfs0, ok_mIfsC, okM_ok, okM_stuck, okM_exc, okM_ite, Ty.below, atI_nat, atI_0, atI_1, atI_2, atI_3, atI_4, atI_5, atI_6, atI_7, atI_last, q_dII, q_dSS, q_dBB, q_dNN, q_dTT, q_dNI, q_dIN, q_dSI, q_dIS, q_dIT, q_dTI, q_dNT, q_dTN, q_dST, q_dTS, q_ds0, q_dsC, q_dsL, q_dsR, q_fI, q_fB, q_fN, q_fT, q_fS, q_f0, q_fC, q_mVar, q_toDv, q_toDt, q_toDo, q_stOv, q_stOt, q_stOo, q_rvOv, q_rvOt, q_rvOo, q_put, q_addI, q_addT, q_addS, q_subI, q_mulI, q_fdivI, q_modI, q_powI, q_shlI, q_shrI, q_addLtt, q_addLot, q_addLoo, q_neg, q_eq, q_ne, q_eqI, q_eqS, q_eqB, q_eqIB, q_eqBI, q_eqT, q_eqSI, q_eqIS, q_eqIT, q_eqTI, q_eqNI, q_eqIN, q_is, q_isnt, q_isNnon, q_isNint, q_isNbl, q_isNstr, q_isNtup, q_isNref, q_lt, q_gt, q_le, q_leT, q_ge, q_in, q_notin, q_trN, q_trB, q_trI, q_trT, q_trS, q_asB, q_subT, q_subR, q_subO, q_subM, q_nodeO, q_nodeR, q_nodeM, q_cutT, q_cutR, q_revT, q_intOf, q_lstR, q_lstM, q_lstO, q_lenT, q_lenS, q_lenR, q_lenO, q_lenM, q_abs, q_intI, q_intB, q_allM, q_anyM, q_sumM, q_tupT, q_tupM, q_tupO, q_tupR, q_listT, q_listM, q_listR, q_listO, q_isi, q_tyN, q_tyB, q_tyI, q_tyS, q_tyT, q_tyR, q_metOk, q_append, q_pop, q_popI, q_setO, q_setR, q_putO, q_walkT, q_walkM, q_walkR, q_walkO, q_setN, q_setM, q_setV, q_setlO, q_rng1, q_rng2, q_settV, q_settT, q_settO, q_opdV, q_opdN, q_addO, q_appL, q_popL, q_sortT, q_sortM, q_sortR, q_sortO, q_sset, q_max, q_min, q_mulT, q_cutO, q_cutM, q_enT, q_enM, q_inIT, q_inTT, q_inIR, q_eqMM, q_extend, q_insert, q_extL, q_insL, q_allO, q_allR, q_anyO, q_anyR, q_sumO, q_sumR, gc_same jl, -beq_iff_eq, -beq_eq_false_iff_ne, str9, str2]
    exact q (.som a b) h5' ja jk (by omega)
  · simp [fn_mkF, semSs, semS, sems, sem, mean, ok_seq, ok_thenN, ok_drop, ok_mRet, ok_mPar, ok_bind', ok_bind, ok_pure, ok_pure', ok_val, ok_tmp, ok_bl, ok_ite, ok_call, ok_lc, ok_lc2, ok_op2, ok_cmp, ok_truth, ok_subO, ok_cutO, ok_revO, ok_negO, ok_intOf, ok_bi, ok_meth, ok_metOk, ok_putO, ok_isi, ok_mVar, ok_toD, ok_stO, ok_rvO, ok_asB, ok_settle, ok_mRng, ok_walkO, ok_enumO, ok_ssetO, ok_put, ok_putT, ok_puts0, ok_putsC, ok_setNode, ok_mDs0, ok_mDsC, ok_mOs0, ok_mOsC, ok_mPart0, ok_mPart1, ok_mIfs0, ok_mIfsC, okM_ok, okM_stuck, okM_exc, okM_ite, Ty.below, atI_nat, atI_0, atI_1, atI_2, atI_3, atI_4, atI_5, atI_6, atI_7, atI_last, q_dII, q_dSS, q_dBB, q_dNN, q_dTT, q_dNI, q_dIN, q_dSI, q_dIS, q_dIT, q_dTI, q_dNT, q_dTN, q_dST, q_dTS, q_ds0, q_dsC, q_dsL, q_dsR, q_fI, q_fB, q_fN, q_fT, q_fS, q_f0, q_fC, q_mVar, q_toDv, q_toDt, q_toDo, q_stOv, q_stOt, q_stOo, q_rvOv, q_rvOt, q_rvOo, q_put, q_addI, q_addT, q_addS, q_subI, q_mulI, q_fdivI, q_modI, q_powI, q_shlI, q_shrI, q_addLtt, q_addLot, q_addLoo, q_neg, q_eq, q_ne, q_eqI, q_eqS, q_eqB, q_eqIB, q_eqBI, q_eqT, q_eqSI, q_eqIS, q_eqIT, q_eqTI, q_eqNI, q_eqIN, q_is, q_isnt, q_isNnon, q_isNint, q_isNbl, q_isNstr, q_isNtup, q_isNref, q_lt, q_gt, q_le, q_leT, q_ge, q_in, q_notin, q_trN, q_trB, q_trI, q_trT, q_trS, q_asB, q_subT, q_subR, q_subO, q_subM, q_nodeO, q_nodeR, q_nodeM, q_cutT, q_cutR, q_revT, q_intOf, q_lstR, q_lstM, q_lstO, q_lenT, q_lenS, q_lenR, q_lenO, q_lenM, q_abs, q_intI, q_intB, q_allM, q_anyM, q_sumM, q_tupT, q_tupM, q_tupO, q_tupR, q_listT, q_listM, q_listR, q_listO, q_isi, q_tyN, q_tyB, q_tyI, q_tyS, q_tyT, q_tyR, q_metOk, q_append, q_pop, q_popI, q_setO, q_setR, q_putO, q_walkT, q_walkM, q_walkR, q_walkO, q_setN, q_setM, q_setV, q_setlO, q_rng1, q_rng2, q_settV, q_settT, q_settO, q_opdV, q_opdN, q_addO, q_appL, q_popL, q_sortT, q_sortM, q_sortR, q_sortO, q_sset, q_max, q_min, q_mulT, q_cutO, q_cutM, q_enT, q_enM, q_inIT, q_inTT, q_inIR, q_eqMM, q_extend, q_insert, q_extL, q_insL, q_allO, q_allR, q_anyO, q_anyR, q_sumO, q_sumR, gc_same jl]
    exact q (.lea a m) h5' ⟨ja.1, hm0, hm1⟩ jk (by omega)
  · simp [fn_mkF, semSs, semS, sems, sem, mean, ok_seq, ok_thenN, ok_drop, ok_mRet, ok_mPar, ok_bind', ok_bind, ok_pure, ok_pure', ok_val, ok_tmp, ok_bl, ok_ite, ok_call, ok_lc, ok_lc2, ok_op2, ok_cmp, ok_truth, ok_subO, ok_cutO, ok_revO, ok_negO, ok_intOf, ok_bi, ok_meth, ok_metOk, ok_putO, ok_isi, ok_mVar, ok_toD, ok_stO, ok_rvO, ok_asB, ok_settle, ok_mRng, ok_walkO, ok_enumO, ok_ssetO, ok_put, ok_putT, ok_puts0, ok_putsC, ok_setNode, ok_mDs0, ok_mDsC, ok_mOs0, ok_mOsC, ok_mPart0, ok_mPart1, ok_mIfs0, ok_mIfsC, okM_ok, okM_stuck, okM_exc, okM_ite, Ty.below, atI_nat, atI_0, atI_1, atI_2, atI_3, atI_4, atI_5, atI_6, atI_7, atI_last, q_dII, q_dSS, q_dBB, q_dNN, q_dTT, q_dNI, q_dIN, q_dSI, q_dIS, q_dIT, q_dTI, q_dNT, q_dTN, q_dST, q_dTS, q_ds0, q_dsC, q_dsL, q_dsR, q_fI, q_fB, q_fN, q_fT, q_fS, q_f0, q_fC, q_mVar, q_toDv, q_toDt, q_toDo, q_stOv, q_stOt, q_stOo, q_rvOv, q_rvOt, q_rvOo, q_put, q_addI, q_addT, q_addS, q_subI, q_mulI, q_fdivI, q_modI, q_powI, q_shlI, q_shrI, q_addLtt, q_addLot, q_addLoo, q_neg, q_eq, q_ne, q_eqI, q_eqS, q_eqB, q_eqIB, q_eqBI, q_eqT, q_eqSI, q_eqIS, q_eqIT, q_eqTI, q_eqNI, q_eqIN, q_is, q_isnt, q_isNnon, q_isNint, q_isNbl, q_isNstr, q_isNtup, q_isNref, q_lt, q_gt, q_le, q_leT, q_ge, q_in, q_notin, q_trN, q_trB, q_trI, q_trT, q_trS, q_asB, q_subT, q_subR, q_subO, q_subM, q_nodeO, q_nodeR, q_nodeM, q_cutT, q_cutR, q_revT, q_intOf, q_lstR, q_lstM, q_lstO, q_lenT, q_lenS, q_lenR, q_lenO, q_lenM, q_abs, q_intI, q_intB, q_allM, q_anyM, q_sumM, q_tupT, q_tupM, q_tupO, q_tupR, q_listT, q_listM, q_listR, q_listO, q_isi, q_tyN, q_tyB, q_tyI, q_tyS, q_tyT, q_tyR, q_metOk, q_append, q_pop, q_popI, q_setO, q_setR, q_putO, q_walkT, q_walkM, q_walkR, q_walkO, q_setN, q_setM, q_setV, q_setlO, q_rng1, q_rng2, q_settV, q_settT, q_settO, q_opdV, q_opdN, q_addO, q_appL, q_popL, q_sortT, q_sortM, q_sortR, q_sortO, q_sset, q_max, q_min, q_mulT, q_cutO, q_cutM, q_enT, q_enM, q_inIT, q_inTT, q_inIR, q_eqMM, q_extend, q_insert, q_extL, q_insL, q_allO, q_allR, q_anyO, q_anyR, q_sumO, q_sumR, gc_same jl, -beq_iff_eq, -beq_eq_false_iff_ne, str8]
    exact q (.mor a b m) h5' ⟨ja.1, ja.2, hm0, hm1⟩ jk (by omega)
end G

/-! G4: worlds: things, sizes, what holds. -/
set_option linter.all false
set_option maxRecDepth 100000
set_option Elab.async false
set_option autoImplicit false
set_option maxHeartbeats 0
namespace G
open PySem Y
theorem seq_walk {d : D} {h : List Node} {ds : List D} (s : SeqD d h ds) : ∃ live, (∀ sl, walkO (.val d) ⟨sl, h⟩ = .ok ⟨ds, live⟩ ⟨sl, h⟩) ∧ (∀ sl, (Walk.mk ds live).same ⟨sl, h⟩ = true) ∧ ∀ s, settle (Walk.mk ds live) s = .ok (Walk.mk ds live) s := by
  rcases s with rfl | ⟨l, rfl, e⟩
  · exact ⟨none, fun sl => rfl, fun sl => rfl, fun s => rfl⟩
  · refine ⟨some (.val (.ref l), ds), fun sl => ?_, fun sl => ?_, fun s => rfl⟩
    · rw [q_walkR, q_lstR, e]
    · exact same_of (by rw [q_lstR, e])
theorem seq_len {d : D} {h : List Node} {ds : List D} (s : SeqD d h ds) (sl : List Slot) : bi .len [.val d] ⟨sl, h⟩ = .ok (.val (.int ds.length)) ⟨sl, h⟩ := by
  rcases s with rfl | ⟨l, rfl, e⟩
  · rfl
  · rw [q_lenR, q_lstR, e]
/-! ### is_integer, integer_within, is_thing -/
def IntegerSp (f : FnD) : Prop := ∀ (d : D) (h : List Node), noRef d = true → f [d] h = .ret (.val (.bl (isIntD d))) h
def irInteger : ISs := (.cons (.ret (.and (.isi [.int] (.var 0)) (.not (.isi [.bool] (.var 0)))))
  .nil)
theorem integer_sp (T : Tb) : IntegerSp (mkF 1 (semSs T irInteger)) := by
  intro d h hd
  apply fn_eq
  cases d <;> first | cases hd; done | simp [irInteger, fn_mkF, semSs, semS, sems, sem, mean, ok_seq, ok_thenN, ok_drop, ok_mRet, ok_mPar, ok_bind', ok_bind, ok_pure, ok_pure', ok_val, ok_tmp, ok_bl, ok_ite, ok_call, ok_lc, ok_lc2, ok_op2, ok_cmp, ok_truth, ok_subO, ok_cutO, ok_revO, ok_negO, ok_intOf, ok_bi, ok_meth, ok_metOk, ok_putO, ok_isi, ok_mVar, ok_toD, ok_stO, ok_rvO, ok_asB, ok_settle, ok_mRng, ok_walkO, ok_enumO, ok_ssetO, ok_put, ok_putT, ok_puts0, ok_putsC, ok_setNode, ok_mDs0, ok_mDsC, ok_mOs0, ok_mOsC, ok_mPart0, ok_mPart1, ok_mIfs0, ok_mIfsC, okM_ok, okM_stuck, okM_exc, okM_ite, Ty.below, atI_nat, atI_0, atI_1, atI_2, atI_3, atI_4, atI_5, atI_6, atI_7, atI_last, q_dII, q_dSS, q_dBB, q_dNN, q_dTT, q_dNI, q_dIN, q_dSI, q_dIS, q_dIT, q_dTI, q_dNT, q_dTN, q_dST, q_dTS, q_ds0, q_dsC, q_dsL, q_dsR, q_fI, q_fB, q_fN, q_fT, q_fS, q_f0, q_fC, q_mVar, q_toDv, q_toDt, q_toDo, q_stOv, q_stOt, q_stOo, q_rvOv, q_rvOt, q_rvOo, q_put, q_addI, q_addT, q_addS, q_subI, q_mulI, q_fdivI, q_modI, q_powI, q_shlI, q_shrI, q_addLtt, q_addLot, q_addLoo, q_neg, q_eq, q_ne, q_eqI, q_eqS, q_eqB, q_eqIB, q_eqBI, q_eqT, q_eqSI, q_eqIS, q_eqIT, q_eqTI, q_eqNI, q_eqIN, q_is, q_isnt, q_isNnon, q_isNint, q_isNbl, q_isNstr, q_isNtup, q_isNref, q_lt, q_gt, q_le, q_leT, q_ge, q_in, q_notin, q_trN, q_trB, q_trI, q_trT, q_trS, q_asB, q_subT, q_subR, q_subO, q_subM, q_nodeO, q_nodeR, q_nodeM, q_cutT, q_cutR, q_revT, q_intOf, q_lstR, q_lstM, q_lstO, q_lenT, q_lenS, q_lenR, q_lenO, q_lenM, q_abs, q_intI, q_intB, q_allM, q_anyM, q_sumM, q_tupT, q_tupM, q_tupO, q_tupR, q_listT, q_listM, q_listR, q_listO, q_isi, q_tyN, q_tyB, q_tyI, q_tyS, q_tyT, q_tyR, q_metOk, q_append, q_pop, q_popI, q_setO, q_setR, q_putO, q_walkT, q_walkM, q_walkR, q_walkO, q_setN, q_setM, q_setV, q_setlO, q_rng1, q_rng2, q_settV, q_settT, q_settO, q_opdV, q_opdN, q_addO, q_appL, q_popL, q_sortT, q_sortM, q_sortR, q_sortO, q_sset, q_max, q_min, q_mulT, q_cutO, q_cutM, q_enT, q_enM, q_inIT, q_inTT, q_inIR, q_eqMM, q_extend, q_insert, q_extL, q_insL, q_allO, q_allR, q_anyO, q_anyR, q_sumO, q_sumR, gc_same, isIntD]
def WithinSp (f : FnD) : Prop := ∀ (i lo hi : Int) (h : List Node), f [.int i, .int lo, .int hi] h = .ret (.val (.bl (decide (lo ≤ i) && decide (i ≤ hi)))) h
def irWithin : ISs := (.cons (.ret (.and (.call 75 (.cons (.var 0) .nil)) (.cmp2 .le .le (.var 1) (.var 0) (.var 2))))
  .nil)
theorem within_sp {T : Tb} (ii : IntegerSp (T.fn 75)) : WithinSp (mkF 3 (semSs T irWithin)) := by
  intro i lo hi h
  apply fn_eq
  by_cases h1 : lo ≤ i
  · simp [irWithin, fn_mkF, semSs, semS, sems, sem, mean, ok_seq, ok_thenN, ok_drop, ok_mRet, ok_mPar, ok_bind', ok_bind, ok_pure, ok_pure', ok_val, ok_tmp, ok_bl, ok_ite, ok_call, ok_lc, ok_lc2, ok_op2, ok_cmp, ok_truth, ok_subO, ok_cutO, ok_revO, ok_negO, ok_intOf, ok_bi, ok_meth, ok_metOk, ok_putO, ok_isi, ok_mVar, ok_toD, ok_stO, ok_rvO, ok_asB, ok_settle, ok_mRng, ok_walkO, ok_enumO, ok_ssetO, ok_put, ok_putT, ok_puts0, ok_putsC, ok_setNode, ok_mDs0, ok_mDsC, ok_mOs0, ok_mOsC, ok_mPart0, ok_mPart1, ok_mIfs0, ok_mIfsC, okM_ok, okM_stuck, okM_exc, okM_ite, Ty.below, atI_nat, atI_0, atI_1, atI_2, atI_3, atI_4, atI_5, atI_6, atI_7, atI_last, q_dII, q_dSS, q_dBB, q_dNN, q_dTT, q_dNI, q_dIN, q_dSI, q_dIS, q_dIT, q_dTI, q_dNT, q_dTN, q_dST, q_dTS, q_ds0, q_dsC, q_dsL, q_dsR, q_fI, q_fB, q_fN, q_fT, q_fS, q_f0, q_fC, q_mVar, q_toDv, q_toDt, q_toDo, q_stOv, q_stOt, q_stOo, q_rvOv, q_rvOt, q_rvOo, q_put, q_addI, q_addT, q_addS, q_subI, q_mulI, q_fdivI, q_modI, q_powI, q_shlI, q_shrI, q_addLtt, q_addLot, q_addLoo, q_neg, q_eq, q_ne, q_eqI, q_eqS, q_eqB, q_eqIB, q_eqBI, q_eqT, q_eqSI, q_eqIS, q_eqIT, q_eqTI, q_eqNI, q_eqIN, q_is, q_isnt, q_isNnon, q_isNint, q_isNbl, q_isNstr, q_isNtup, q_isNref, q_lt, q_gt, q_le, q_leT, q_ge, q_in, q_notin, q_trN, q_trB, q_trI, q_trT, q_trS, q_asB, q_subT, q_subR, q_subO, q_subM, q_nodeO, q_nodeR, q_nodeM, q_cutT, q_cutR, q_revT, q_intOf, q_lstR, q_lstM, q_lstO, q_lenT, q_lenS, q_lenR, q_lenO, q_lenM, q_abs, q_intI, q_intB, q_allM, q_anyM, q_sumM, q_tupT, q_tupM, q_tupO, q_tupR, q_listT, q_listM, q_listR, q_listO, q_isi, q_tyN, q_tyB, q_tyI, q_tyS, q_tyT, q_tyR, q_metOk, q_append, q_pop, q_popI, q_setO, q_setR, q_putO, q_walkT, q_walkM, q_walkR, q_walkO, q_setN, q_setM, q_setV, q_setlO, q_rng1, q_rng2, q_settV, q_settT, q_settO, q_opdV, q_opdN, q_addO, q_appL, q_popL, q_sortT, q_sortM, q_sortR, q_sortO, q_sset, q_max, q_min, q_mulT, q_cutO, q_cutM, q_enT, q_enM, q_inIT, q_inTT, q_inIR, q_eqMM, q_extend, q_insert, q_extL, q_insL, q_allO, q_allR, q_anyO, q_anyR, q_sumO, q_sumR, gc_same, fn_ret (ii (.int i) h rfl), isIntD, h1]
  · simp [irWithin, fn_mkF, semSs, semS, sems, sem, mean, ok_seq, ok_thenN, ok_drop, ok_mRet, ok_mPar, ok_bind', ok_bind, ok_pure, ok_pure', ok_val, ok_tmp, ok_bl, ok_ite, ok_call, ok_lc, ok_lc2, ok_op2, ok_cmp, ok_truth, ok_subO, ok_cutO, ok_revO, ok_negO, ok_intOf, ok_bi, ok_meth, ok_metOk, ok_putO, ok_isi, ok_mVar, ok_toD, ok_stO, ok_rvO, ok_asB, ok_settle, ok_mRng, ok_walkO, ok_enumO, ok_ssetO, ok_put, ok_putT, ok_puts0, ok_putsC, ok_setNode, ok_mDs0, ok_mDsC, ok_mOs0, ok_mOsC, ok_mPart0, ok_mPart1, ok_mIfs0, ok_mIfsC, okM_ok, okM_stuck, okM_exc, okM_ite, Ty.below, atI_nat, atI_0, atI_1, atI_2, atI_3, atI_4, atI_5, atI_6, atI_7, atI_last, q_dII, q_dSS, q_dBB, q_dNN, q_dTT, q_dNI, q_dIN, q_dSI, q_dIS, q_dIT, q_dTI, q_dNT, q_dTN, q_dST, q_dTS, q_ds0, q_dsC, q_dsL, q_dsR, q_fI, q_fB, q_fN, q_fT, q_fS, q_f0, q_fC, q_mVar, q_toDv, q_toDt, q_toDo, q_stOv, q_stOt, q_stOo, q_rvOv, q_rvOt, q_rvOo, q_put, q_addI, q_addT, q_addS, q_subI, q_mulI, q_fdivI, q_modI, q_powI, q_shlI, q_shrI, q_addLtt, q_addLot, q_addLoo, q_neg, q_eq, q_ne, q_eqI, q_eqS, q_eqB, q_eqIB, q_eqBI, q_eqT, q_eqSI, q_eqIS, q_eqIT, q_eqTI, q_eqNI, q_eqIN, q_is, q_isnt, q_isNnon, q_isNint, q_isNbl, q_isNstr, q_isNtup, q_isNref, q_lt, q_gt, q_le, q_leT, q_ge, q_in, q_notin, q_trN, q_trB, q_trI, q_trT, q_trS, q_asB, q_subT, q_subR, q_subO, q_subM, q_nodeO, q_nodeR, q_nodeM, q_cutT, q_cutR, q_revT, q_intOf, q_lstR, q_lstM, q_lstO, q_lenT, q_lenS, q_lenR, q_lenO, q_lenM, q_abs, q_intI, q_intB, q_allM, q_anyM, q_sumM, q_tupT, q_tupM, q_tupO, q_tupR, q_listT, q_listM, q_listR, q_listO, q_isi, q_tyN, q_tyB, q_tyI, q_tyS, q_tyT, q_tyR, q_metOk, q_append, q_pop, q_popI, q_setO, q_setR, q_putO, q_walkT, q_walkM, q_walkR, q_walkO, q_setN, q_setM, q_setV, q_setlO, q_rng1, q_rng2, q_settV, q_settT, q_settO, q_opdV, q_opdN, q_addO, q_appL, q_popL, q_sortT, q_sortM, q_sortR, q_sortO, q_sset, q_max, q_min, q_mulT, q_cutO, q_cutM, q_enT, q_enM, q_inIT, q_inTT, q_inIR, q_eqMM, q_extend, q_insert, q_extL, q_insL, q_allO, q_allR, q_anyO, q_anyR, q_sumO, q_sumR, gc_same, fn_ret (ii (.int i) h rfl), isIntD, h1]
/-- a right thing -/
def GoodT (many : Int) (t : List Int) : Prop := t.length < 64 ∧ (∀ i ∈ t, 0 ≤ i ∧ i < many) ∧ t.Pairwise (· < ·)
def ThingSp (f : FnD) : Prop := ∀ (many : Int) (t : List Int) (h : List Node), GoodT many t → f [.int many, tD t] h = .ret (.val (.bl true)) h
def irThing : ISs := (.cons (.ife (.or (.not (.isi [.tuple] (.var 1))) (.not (.bi .all (.cons (.lc [2] (.call 66 (.cons (.var 2) (.cons (.int 0) (.cons (.bin .sub (.var 0) (.int 1)) .nil)))) (.name 2) (.var 1) .nil) .nil)))) (.cons (.ret (.bl false))
  .nil) .nil)
  (.cons (.ret (.cmp .eq (.bi .list (.cons (.var 1) .nil)) (.sset (.var 1))))
  .nil))
theorem eqs_self : ∀ t : List Int, D.eqs (t.map .int) (t.map .int) = true
  | [] => q_ds0
  | i :: t => by rw [List.map_cons, q_dsC, eqs_self t, q_dII]; simp
theorem thing_sp {T : Tb} (wi : WithinSp (T.fn 66)) : ThingSp (mkF 3 (semSs T irThing)) := by
  intro many t h ⟨g1, g2, g3⟩
  apply fn_eq
  have hlim := lim_eq
  simp [irThing, tD, fn_mkF, semSs, semS, sems, sem, mean, ok_seq, ok_thenN, ok_drop, ok_mRet, ok_mPar, ok_bind', ok_bind, ok_pure, ok_pure', ok_val, ok_tmp, ok_bl, ok_ite, ok_call, ok_lc, ok_lc2, ok_op2, ok_cmp, ok_truth, ok_subO, ok_cutO, ok_revO, ok_negO, ok_intOf, ok_bi, ok_meth, ok_metOk, ok_putO, ok_isi, ok_mVar, ok_toD, ok_stO, ok_rvO, ok_asB, ok_settle, ok_mRng, ok_walkO, ok_enumO, ok_ssetO, ok_put, ok_putT, ok_puts0, ok_putsC, ok_setNode, ok_mDs0, ok_mDsC, ok_mOs0, ok_mOsC, ok_mPart0, ok_mPart1, ok_mIfs0, ok_mIfsC, okM_ok, okM_stuck, okM_exc, okM_ite, Ty.below, atI_nat, atI_0, atI_1, atI_2, atI_3, atI_4, atI_5, atI_6, atI_7, atI_last, q_dII, q_dSS, q_dBB, q_dNN, q_dTT, q_dNI, q_dIN, q_dSI, q_dIS, q_dIT, q_dTI, q_dNT, q_dTN, q_dST, q_dTS, q_ds0, q_dsC, q_dsL, q_dsR, q_fI, q_fB, q_fN, q_fT, q_fS, q_f0, q_fC, q_mVar, q_toDv, q_toDt, q_toDo, q_stOv, q_stOt, q_stOo, q_rvOv, q_rvOt, q_rvOo, q_put, q_addI, q_addT, q_addS, q_subI, q_mulI, q_fdivI, q_modI, q_powI, q_shlI, q_shrI, q_addLtt, q_addLot, q_addLoo, q_neg, q_eq, q_ne, q_eqI, q_eqS, q_eqB, q_eqIB, q_eqBI, q_eqT, q_eqSI, q_eqIS, q_eqIT, q_eqTI, q_eqNI, q_eqIN, q_is, q_isnt, q_isNnon, q_isNint, q_isNbl, q_isNstr, q_isNtup, q_isNref, q_lt, q_gt, q_le, q_leT, q_ge, q_in, q_notin, q_trN, q_trB, q_trI, q_trT, q_trS, q_asB, q_subT, q_subR, q_subO, q_subM, q_nodeO, q_nodeR, q_nodeM, q_cutT, q_cutR, q_revT, q_intOf, q_lstR, q_lstM, q_lstO, q_lenT, q_lenS, q_lenR, q_lenO, q_lenM, q_abs, q_intI, q_intB, q_allM, q_anyM, q_sumM, q_tupT, q_tupM, q_tupO, q_tupR, q_listT, q_listM, q_listR, q_listO, q_isi, q_tyN, q_tyB, q_tyI, q_tyS, q_tyT, q_tyR, q_metOk, q_append, q_pop, q_popI, q_setO, q_setR, q_putO, q_walkT, q_walkM, q_walkR, q_walkO, q_setN, q_setM, q_setV, q_setlO, q_rng1, q_rng2, q_settV, q_settT, q_settO, q_opdV, q_opdN, q_addO, q_appL, q_popL, q_sortT, q_sortM, q_sortR, q_sortO, q_sset, q_max, q_min, q_mulT, q_cutO, q_cutM, q_enT, q_enM, q_inIT, q_inTT, q_inIR, q_eqMM, q_extend, q_insert, q_extL, q_insL, q_allO, q_allR, q_anyO, q_anyR, q_sumO, q_sumR, gc_same, wipe]
  refine ok_lc_pure (w := ⟨t.map .int, none⟩) (own := [2]) (sl := [.val (.int many), .val (.tup (t.map .int)), .unset]) (fun _ => some (.bl true)) rfl (by simp; omega) (fun d hd => ?_) ?_
  · obtain ⟨i, hi, rfl⟩ := List.mem_map.mp hd
    have := g2 i hi
    have e1 : decide (i ≤ many - 1) = true := decide_eq_true (by omega)
    have e2 : decide (0 ≤ i) = true := decide_eq_true this.1
    simp [wipe, fn_mkF, semSs, semS, sems, sem, mean, ok_seq, ok_thenN, ok_drop, ok_mRet, ok_mPar, ok_bind', ok_bind, ok_pure, ok_pure', ok_val, ok_tmp, ok_bl, ok_ite, ok_call, ok_lc, ok_lc2, ok_op2, ok_cmp, ok_truth, ok_subO, ok_cutO, ok_revO, ok_negO, ok_intOf, ok_bi, ok_meth, ok_metOk, ok_putO, ok_isi, ok_mVar, ok_toD, ok_stO, ok_rvO, ok_asB, ok_settle, ok_mRng, ok_walkO, ok_enumO, ok_ssetO, ok_put, ok_putT, ok_puts0, ok_putsC, ok_setNode, ok_mDs0, ok_mDsC, ok_mOs0, ok_mOsC, ok_mPart0, ok_mPart1, ok_mIfs0, ok_mIfsC, okM_ok, okM_stuck, okM_exc, okM_ite, Ty.below, atI_nat, atI_0, atI_1, atI_2, atI_3, atI_4, atI_5, atI_6, atI_7, atI_last, q_dII, q_dSS, q_dBB, q_dNN, q_dTT, q_dNI, q_dIN, q_dSI, q_dIS, q_dIT, q_dTI, q_dNT, q_dTN, q_dST, q_dTS, q_ds0, q_dsC, q_dsL, q_dsR, q_fI, q_fB, q_fN, q_fT, q_fS, q_f0, q_fC, q_mVar, q_toDv, q_toDt, q_toDo, q_stOv, q_stOt, q_stOo, q_rvOv, q_rvOt, q_rvOo, q_put, q_addI, q_addT, q_addS, q_subI, q_mulI, q_fdivI, q_modI, q_powI, q_shlI, q_shrI, q_addLtt, q_addLot, q_addLoo, q_neg, q_eq, q_ne, q_eqI, q_eqS, q_eqB, q_eqIB, q_eqBI, q_eqT, q_eqSI, q_eqIS, q_eqIT, q_eqTI, q_eqNI, q_eqIN, q_is, q_isnt, q_isNnon, q_isNint, q_isNbl, q_isNstr, q_isNtup, q_isNref, q_lt, q_gt, q_le, q_leT, q_ge, q_in, q_notin, q_trN, q_trB, q_trI, q_trT, q_trS, q_asB, q_subT, q_subR, q_subO, q_subM, q_nodeO, q_nodeR, q_nodeM, q_cutT, q_cutR, q_revT, q_intOf, q_lstR, q_lstM, q_lstO, q_lenT, q_lenS, q_lenR, q_lenO, q_lenM, q_abs, q_intI, q_intB, q_allM, q_anyM, q_sumM, q_tupT, q_tupM, q_tupO, q_tupR, q_listT, q_listM, q_listR, q_listO, q_isi, q_tyN, q_tyB, q_tyI, q_tyS, q_tyT, q_tyR, q_metOk, q_append, q_pop, q_popI, q_setO, q_setR, q_putO, q_walkT, q_walkM, q_walkR, q_walkO, q_setN, q_setM, q_setV, q_setlO, q_rng1, q_rng2, q_settV, q_settT, q_settO, q_opdV, q_opdN, q_addO, q_appL, q_popL, q_sortT, q_sortM, q_sortR, q_sortO, q_sset, q_max, q_min, q_mulT, q_cutO, q_cutM, q_enT, q_enM, q_inIT, q_inTT, q_inIR, q_eqMM, q_extend, q_insert, q_extL, q_insL, q_allO, q_allR, q_anyO, q_anyR, q_sumO, q_sumR, fn_ret (wi i 0 (many - 1) h), e1, e2]
  · have er : (t.map D.int).filterMap (fun _ => some (.bl true)) = t.map fun _ => D.bl true := by
      rw [List.filterMap_map]
      exact filterMap_some (fun _ => D.bl true) t
    have eb : D.bools (t.map fun _ => D.bl true) = some (t.map fun _ => true) := bools_map (fun _ => true) t
    have ea : (t.map fun _ => true).all id = true := by simp
    have es : D.srt (D.once (t.map .int)) = t.map .int := sset_asc g3 fun _ => Iff.rfl
    rw [er]
    simp [wipe, unwipe, fn_mkF, semSs, semS, sems, sem, mean, ok_seq, ok_thenN, ok_drop, ok_mRet, ok_mPar, ok_bind', ok_bind, ok_pure, ok_pure', ok_val, ok_tmp, ok_bl, ok_ite, ok_call, ok_lc, ok_lc2, ok_op2, ok_cmp, ok_truth, ok_subO, ok_cutO, ok_revO, ok_negO, ok_intOf, ok_bi, ok_meth, ok_metOk, ok_putO, ok_isi, ok_mVar, ok_toD, ok_stO, ok_rvO, ok_asB, ok_settle, ok_mRng, ok_walkO, ok_enumO, ok_ssetO, ok_put, ok_putT, ok_puts0, ok_putsC, ok_setNode, ok_mDs0, ok_mDsC, ok_mOs0, ok_mOsC, ok_mPart0, ok_mPart1, ok_mIfs0, ok_mIfsC, okM_ok, okM_stuck, okM_exc, okM_ite, Ty.below, atI_nat, atI_0, atI_1, atI_2, atI_3, atI_4, atI_5, atI_6, atI_7, atI_last, q_dII, q_dSS, q_dBB, q_dNN, q_dTT, q_dNI, q_dIN, q_dSI, q_dIS, q_dIT, q_dTI, q_dNT, q_dTN, q_dST, q_dTS, q_ds0, q_dsC, q_dsL, q_dsR, q_fI, q_fB, q_fN, q_fT, q_fS, q_f0, q_fC, q_mVar, q_toDv, q_toDt, q_toDo, q_stOv, q_stOt, q_stOo, q_rvOv, q_rvOt, q_rvOo, q_put, q_addI, q_addT, q_addS, q_subI, q_mulI, q_fdivI, q_modI, q_powI, q_shlI, q_shrI, q_addLtt, q_addLot, q_addLoo, q_neg, q_eq, q_ne, q_eqI, q_eqS, q_eqB, q_eqIB, q_eqBI, q_eqT, q_eqSI, q_eqIS, q_eqIT, q_eqTI, q_eqNI, q_eqIN, q_is, q_isnt, q_isNnon, q_isNint, q_isNbl, q_isNstr, q_isNtup, q_isNref, q_lt, q_gt, q_le, q_leT, q_ge, q_in, q_notin, q_trN, q_trB, q_trI, q_trT, q_trS, q_asB, q_subT, q_subR, q_subO, q_subM, q_nodeO, q_nodeR, q_nodeM, q_cutT, q_cutR, q_revT, q_intOf, q_lstR, q_lstM, q_lstO, q_lenT, q_lenS, q_lenR, q_lenO, q_lenM, q_abs, q_intI, q_intB, q_allM, q_anyM, q_sumM, q_tupT, q_tupM, q_tupO, q_tupR, q_listT, q_listM, q_listR, q_listO, q_isi, q_tyN, q_tyB, q_tyI, q_tyS, q_tyT, q_tyR, q_metOk, q_append, q_pop, q_popI, q_setO, q_setR, q_putO, q_walkT, q_walkM, q_walkR, q_walkO, q_setN, q_setM, q_setV, q_setlO, q_rng1, q_rng2, q_settV, q_settT, q_settO, q_opdV, q_opdN, q_addO, q_appL, q_popL, q_sortT, q_sortM, q_sortR, q_sortO, q_sset, q_max, q_min, q_mulT, q_cutO, q_cutM, q_enT, q_enM, q_inIT, q_inTT, q_inIR, q_eqMM, q_extend, q_insert, q_extL, q_insL, q_allO, q_allR, q_anyO, q_anyR, q_sumO, q_sumR, gc_same, eb, ea, ints_of, g1, es, flat_ints, eqs_self, -List.map_const', -List.map_const_fun]
/-! ### sizes, what holds -/
def size (w : List (List Int)) (i : Int) : Int := (w.filter fun t => decide (i ∈ t)).length
def SizeSp (f : FnD) : Prop := ∀ (w : List (List Int)) (i : Int) (d : D) (h : List Node), SeqD d h (wsD w) → w.length ≤ lim → f [d, .int i] h = .ret (.val (.int (size w i))) h
def irSize : ISs := (.cons (.ret (.bi .len (.cons (.lc [2] (.var 2) (.name 2) (.var 0) (.cons (.cmp .isIn (.var 1) (.var 2)) .nil)) .nil)))
  .nil)
theorem flat_int_k (k : Nat) (i : Int) : D.flat k (.int i) = true := q_fI
/-- those things of which p is true -/
def pick (p : List Int → Bool) (f : List Int → D) : D → Option D
  | .tup xs => match D.ints xs with
    | some t => if p t = true then some (f t) else none
    | none => none
  | _ => none
theorem pick_t (p : List Int → Bool) (f : List Int → D) (t : List Int) : pick p f (tD t) = if p t = true then some (f t) else none := by
  unfold tD pick
  simp only [ints_of]
theorem pick_ws (p : List Int → Bool) (f : List Int → D) (w : List (List Int)) : (wsD w).filterMap (pick p f) = (w.filter p).map f := by
  unfold wsD
  rw [List.filterMap_map, ← filterMap_if]
  exact congrArg (fun g => List.filterMap g w) (funext fun t => pick_t p f t)
theorem size_sp (T : Tb) : SizeSp (mkF 3 (semSs T irSize)) := by
  intro w i d h hs hl
  apply fn_eq
  obtain ⟨live, e1, e2, _⟩ := seq_walk hs
  simp [irSize, fn_mkF, semSs, semS, sems, sem, mean, ok_seq, ok_thenN, ok_drop, ok_mRet, ok_mPar, ok_bind', ok_bind, ok_pure, ok_pure', ok_val, ok_tmp, ok_bl, ok_ite, ok_call, ok_lc, ok_lc2, ok_op2, ok_cmp, ok_truth, ok_subO, ok_cutO, ok_revO, ok_negO, ok_intOf, ok_bi, ok_meth, ok_metOk, ok_putO, ok_isi, ok_mVar, ok_toD, ok_stO, ok_rvO, ok_asB, ok_settle, ok_mRng, ok_walkO, ok_enumO, ok_ssetO, ok_put, ok_putT, ok_puts0, ok_putsC, ok_setNode, ok_mDs0, ok_mDsC, ok_mOs0, ok_mOsC, ok_mPart0, ok_mPart1, ok_mIfs0, ok_mIfsC, okM_ok, okM_stuck, okM_exc, okM_ite, Ty.below, atI_nat, atI_0, atI_1, atI_2, atI_3, atI_4, atI_5, atI_6, atI_7, atI_last, q_dII, q_dSS, q_dBB, q_dNN, q_dTT, q_dNI, q_dIN, q_dSI, q_dIS, q_dIT, q_dTI, q_dNT, q_dTN, q_dST, q_dTS, q_ds0, q_dsC, q_dsL, q_dsR, q_fI, q_fB, q_fN, q_fT, q_fS, q_f0, q_fC, q_mVar, q_toDv, q_toDt, q_toDo, q_stOv, q_stOt, q_stOo, q_rvOv, q_rvOt, q_rvOo, q_put, q_addI, q_addT, q_addS, q_subI, q_mulI, q_fdivI, q_modI, q_powI, q_shlI, q_shrI, q_addLtt, q_addLot, q_addLoo, q_neg, q_eq, q_ne, q_eqI, q_eqS, q_eqB, q_eqIB, q_eqBI, q_eqT, q_eqSI, q_eqIS, q_eqIT, q_eqTI, q_eqNI, q_eqIN, q_is, q_isnt, q_isNnon, q_isNint, q_isNbl, q_isNstr, q_isNtup, q_isNref, q_lt, q_gt, q_le, q_leT, q_ge, q_in, q_notin, q_trN, q_trB, q_trI, q_trT, q_trS, q_asB, q_subT, q_subR, q_subO, q_subM, q_nodeO, q_nodeR, q_nodeM, q_cutT, q_cutR, q_revT, q_intOf, q_lstR, q_lstM, q_lstO, q_lenT, q_lenS, q_lenR, q_lenO, q_lenM, q_abs, q_intI, q_intB, q_allM, q_anyM, q_sumM, q_tupT, q_tupM, q_tupO, q_tupR, q_listT, q_listM, q_listR, q_listO, q_isi, q_tyN, q_tyB, q_tyI, q_tyS, q_tyT, q_tyR, q_metOk, q_append, q_pop, q_popI, q_setO, q_setR, q_putO, q_walkT, q_walkM, q_walkR, q_walkO, q_setN, q_setM, q_setV, q_setlO, q_rng1, q_rng2, q_settV, q_settT, q_settO, q_opdV, q_opdN, q_addO, q_appL, q_popL, q_sortT, q_sortM, q_sortR, q_sortO, q_sset, q_max, q_min, q_mulT, q_cutO, q_cutM, q_enT, q_enM, q_inIT, q_inTT, q_inIR, q_eqMM, q_extend, q_insert, q_extL, q_insL, q_allO, q_allR, q_anyO, q_anyR, q_sumO, q_sumR, gc_same, wipe, e1]
  refine ok_lc_pure (w := ⟨wsD w, live⟩) (own := [2]) (sl := [.val d, .val (.int i), .unset]) (pick (fun t => decide (i ∈ t)) tD) (e2 _) (by rw [ws_len]; exact hl) (fun x hx => ?_) ?_
  · obtain ⟨t, ht, rfl⟩ := List.mem_map.mp hx
    rw [pick_t]
    have ef := flat_ints 60 t
    have ea := any_ints i t
    by_cases hi : i ∈ t
    · simp [wipe, tD, fn_mkF, semSs, semS, sems, sem, mean, ok_seq, ok_thenN, ok_drop, ok_mRet, ok_mPar, ok_bind', ok_bind, ok_pure, ok_pure', ok_val, ok_tmp, ok_bl, ok_ite, ok_call, ok_lc, ok_lc2, ok_op2, ok_cmp, ok_truth, ok_subO, ok_cutO, ok_revO, ok_negO, ok_intOf, ok_bi, ok_meth, ok_metOk, ok_putO, ok_isi, ok_mVar, ok_toD, ok_stO, ok_rvO, ok_asB, ok_settle, ok_mRng, ok_walkO, ok_enumO, ok_ssetO, ok_put, ok_putT, ok_puts0, ok_putsC, ok_setNode, ok_mDs0, ok_mDsC, ok_mOs0, ok_mOsC, ok_mPart0, ok_mPart1, ok_mIfs0, ok_mIfsC, okM_ok, okM_stuck, okM_exc, okM_ite, Ty.below, atI_nat, atI_0, atI_1, atI_2, atI_3, atI_4, atI_5, atI_6, atI_7, atI_last, q_dII, q_dSS, q_dBB, q_dNN, q_dTT, q_dNI, q_dIN, q_dSI, q_dIS, q_dIT, q_dTI, q_dNT, q_dTN, q_dST, q_dTS, q_ds0, q_dsC, q_dsL, q_dsR, q_fI, q_fB, q_fN, q_fT, q_fS, q_f0, q_fC, q_mVar, q_toDv, q_toDt, q_toDo, q_stOv, q_stOt, q_stOo, q_rvOv, q_rvOt, q_rvOo, q_put, q_addI, q_addT, q_addS, q_subI, q_mulI, q_fdivI, q_modI, q_powI, q_shlI, q_shrI, q_addLtt, q_addLot, q_addLoo, q_neg, q_eq, q_ne, q_eqI, q_eqS, q_eqB, q_eqIB, q_eqBI, q_eqT, q_eqSI, q_eqIS, q_eqIT, q_eqTI, q_eqNI, q_eqIN, q_is, q_isnt, q_isNnon, q_isNint, q_isNbl, q_isNstr, q_isNtup, q_isNref, q_lt, q_gt, q_le, q_leT, q_ge, q_in, q_notin, q_trN, q_trB, q_trI, q_trT, q_trS, q_asB, q_subT, q_subR, q_subO, q_subM, q_nodeO, q_nodeR, q_nodeM, q_cutT, q_cutR, q_revT, q_intOf, q_lstR, q_lstM, q_lstO, q_lenT, q_lenS, q_lenR, q_lenO, q_lenM, q_abs, q_intI, q_intB, q_allM, q_anyM, q_sumM, q_tupT, q_tupM, q_tupO, q_tupR, q_listT, q_listM, q_listR, q_listO, q_isi, q_tyN, q_tyB, q_tyI, q_tyS, q_tyT, q_tyR, q_metOk, q_append, q_pop, q_popI, q_setO, q_setR, q_putO, q_walkT, q_walkM, q_walkR, q_walkO, q_setN, q_setM, q_setV, q_setlO, q_rng1, q_rng2, q_settV, q_settT, q_settO, q_opdV, q_opdN, q_addO, q_appL, q_popL, q_sortT, q_sortM, q_sortR, q_sortO, q_sset, q_max, q_min, q_mulT, q_cutO, q_cutM, q_enT, q_enM, q_inIT, q_inTT, q_inIR, q_eqMM, q_extend, q_insert, q_extL, q_insL, q_allO, q_allR, q_anyO, q_anyR, q_sumO, q_sumR, flat_int_k, ef, ea, hi]
    · simp [wipe, tD, fn_mkF, semSs, semS, sems, sem, mean, ok_seq, ok_thenN, ok_drop, ok_mRet, ok_mPar, ok_bind', ok_bind, ok_pure, ok_pure', ok_val, ok_tmp, ok_bl, ok_ite, ok_call, ok_lc, ok_lc2, ok_op2, ok_cmp, ok_truth, ok_subO, ok_cutO, ok_revO, ok_negO, ok_intOf, ok_bi, ok_meth, ok_metOk, ok_putO, ok_isi, ok_mVar, ok_toD, ok_stO, ok_rvO, ok_asB, ok_settle, ok_mRng, ok_walkO, ok_enumO, ok_ssetO, ok_put, ok_putT, ok_puts0, ok_putsC, ok_setNode, ok_mDs0, ok_mDsC, ok_mOs0, ok_mOsC, ok_mPart0, ok_mPart1, ok_mIfs0, ok_mIfsC, okM_ok, okM_stuck, okM_exc, okM_ite, Ty.below, atI_nat, atI_0, atI_1, atI_2, atI_3, atI_4, atI_5, atI_6, atI_7, atI_last, q_dII, q_dSS, q_dBB, q_dNN, q_dTT, q_dNI, q_dIN, q_dSI, q_dIS, q_dIT, q_dTI, q_dNT, q_dTN, q_dST, q_dTS, q_ds0, q_dsC, q_dsL, q_dsR, q_fI, q_fB, q_fN, q_fT, q_fS, q_f0, q_fC, q_mVar, q_toDv, q_toDt, q_toDo, q_stOv, q_stOt, q_stOo, q_rvOv, q_rvOt, q_rvOo, q_put, q_addI, q_addT, q_addS, q_subI, q_mulI, q_fdivI, q_modI, q_powI, q_shlI, q_shrI, q_addLtt, q_addLot, q_addLoo, q_neg, q_eq, q_ne, q_eqI, q_eqS, q_eqB, q_eqIB, q_eqBI, q_eqT, q_eqSI, q_eqIS, q_eqIT, q_eqTI, q_eqNI, q_eqIN, q_is, q_isnt, q_isNnon, q_isNint, q_isNbl, q_isNstr, q_isNtup, q_isNref, q_lt, q_gt, q_le, q_leT, q_ge, q_in, q_notin, q_trN, q_trB, q_trI, q_trT, q_trS, q_asB, q_subT, q_subR, q_subO, q_subM, q_nodeO, q_nodeR, q_nodeM, q_cutT, q_cutR, q_revT, q_intOf, q_lstR, q_lstM, q_lstO, q_lenT, q_lenS, q_lenR, q_lenO, q_lenM, q_abs, q_intI, q_intB, q_allM, q_anyM, q_sumM, q_tupT, q_tupM, q_tupO, q_tupR, q_listT, q_listM, q_listR, q_listO, q_isi, q_tyN, q_tyB, q_tyI, q_tyS, q_tyT, q_tyR, q_metOk, q_append, q_pop, q_popI, q_setO, q_setR, q_putO, q_walkT, q_walkM, q_walkR, q_walkO, q_setN, q_setM, q_setV, q_setlO, q_rng1, q_rng2, q_settV, q_settT, q_settO, q_opdV, q_opdN, q_addO, q_appL, q_popL, q_sortT, q_sortM, q_sortR, q_sortO, q_sset, q_max, q_min, q_mulT, q_cutO, q_cutM, q_enT, q_enM, q_inIT, q_inTT, q_inIR, q_eqMM, q_extend, q_insert, q_extL, q_insL, q_allO, q_allR, q_anyO, q_anyR, q_sumO, q_sumR, flat_int_k, ef, ea, hi]
  · rw [pick_ws]
    simp [wipe, unwipe, fn_mkF, semSs, semS, sems, sem, mean, ok_seq, ok_thenN, ok_drop, ok_mRet, ok_mPar, ok_bind', ok_bind, ok_pure, ok_pure', ok_val, ok_tmp, ok_bl, ok_ite, ok_call, ok_lc, ok_lc2, ok_op2, ok_cmp, ok_truth, ok_subO, ok_cutO, ok_revO, ok_negO, ok_intOf, ok_bi, ok_meth, ok_metOk, ok_putO, ok_isi, ok_mVar, ok_toD, ok_stO, ok_rvO, ok_asB, ok_settle, ok_mRng, ok_walkO, ok_enumO, ok_ssetO, ok_put, ok_putT, ok_puts0, ok_putsC, ok_setNode, ok_mDs0, ok_mDsC, ok_mOs0, ok_mOsC, ok_mPart0, ok_mPart1, ok_mIfs0, ok_mIfsC, okM_ok, okM_stuck, okM_exc, okM_ite, Ty.below, atI_nat, atI_0, atI_1, atI_2, atI_3, atI_4, atI_5, atI_6, atI_7, atI_last, q_dII, q_dSS, q_dBB, q_dNN, q_dTT, q_dNI, q_dIN, q_dSI, q_dIS, q_dIT, q_dTI, q_dNT, q_dTN, q_dST, q_dTS, q_ds0, q_dsC, q_dsL, q_dsR, q_fI, q_fB, q_fN, q_fT, q_fS, q_f0, q_fC, q_mVar, q_toDv, q_toDt, q_toDo, q_stOv, q_stOt, q_stOo, q_rvOv, q_rvOt, q_rvOo, q_put, q_addI, q_addT, q_addS, q_subI, q_mulI, q_fdivI, q_modI, q_powI, q_shlI, q_shrI, q_addLtt, q_addLot, q_addLoo, q_neg, q_eq, q_ne, q_eqI, q_eqS, q_eqB, q_eqIB, q_eqBI, q_eqT, q_eqSI, q_eqIS, q_eqIT, q_eqTI, q_eqNI, q_eqIN, q_is, q_isnt, q_isNnon, q_isNint, q_isNbl, q_isNstr, q_isNtup, q_isNref, q_lt, q_gt, q_le, q_leT, q_ge, q_in, q_notin, q_trN, q_trB, q_trI, q_trT, q_trS, q_asB, q_subT, q_subR, q_subO, q_subM, q_nodeO, q_nodeR, q_nodeM, q_cutT, q_cutR, q_revT, q_intOf, q_lstR, q_lstM, q_lstO, q_lenT, q_lenS, q_lenR, q_lenO, q_lenM, q_abs, q_intI, q_intB, q_allM, q_anyM, q_sumM, q_tupT, q_tupM, q_tupO, q_tupR, q_listT, q_listM, q_listR, q_listO, q_isi, q_tyN, q_tyB, q_tyI, q_tyS, q_tyT, q_tyR, q_metOk, q_append, q_pop, q_popI, q_setO, q_setR, q_putO, q_walkT, q_walkM, q_walkR, q_walkO, q_setN, q_setM, q_setV, q_setlO, q_rng1, q_rng2, q_settV, q_settT, q_settO, q_opdV, q_opdN, q_addO, q_appL, q_popL, q_sortT, q_sortM, q_sortR, q_sortO, q_sset, q_max, q_min, q_mulT, q_cutO, q_cutM, q_enT, q_enM, q_inIT, q_inTT, q_inIR, q_eqMM, q_extend, q_insert, q_extL, q_insL, q_allO, q_allR, q_anyO, q_anyR, q_sumO, q_sumR, gc_same, size]
def holdsW (w : List (List Int)) : Sen → Bool
  | .all a b => w.all fun t => !decide (a ∈ t) || decide (b ∈ t)
  | .som a b => w.any fun t => decide (a ∈ t) && decide (b ∈ t)
  | .lea a n => decide (n ≤ size w a)
  | .mor a b n => decide (size w b + n ≤ size w a)
def HoldsSp (f : FnD) : Prop := ∀ (w : List (List Int)) (s : Sen) (d : D) (h : List Node), SeqD d h (wsD w) → w.length ≤ lim → f [d, s.d] h = .ret (.val (.bl (holdsW w s))) h
def irHolds : ISs := (.cons (.ife (.cmp .eq (.sub (.var 1) (.int 0)) (.str "least")) (.cons (.ret (.cmp .ge (.call 169 (.cons (.var 0) (.cons (.sub (.var 1) (.int 1)) .nil))) (.sub (.var 1) (.int 2))))
  .nil) .nil)
  (.cons (.asg (.tup [(.name 2), (.name 3), (.name 4)]) (.cut (.var 1) .nil (.cons (.int 3) .nil)))
  (.cons (.ife (.cmp .eq (.sub (.var 1) (.int 0)) (.str "more")) (.cons (.ret (.cmp .ge (.call 169 (.cons (.var 0) (.cons (.var 3) .nil))) (.bin .add (.call 169 (.cons (.var 0) (.cons (.var 4) .nil))) (.sub (.var 1) (.int 3)))))
  .nil) .nil)
  (.cons (.set 5 (.lc [6] (.cmp .isIn (.var 4) (.var 6)) (.name 6) (.var 0) (.cons (.cmp .isIn (.var 3) (.var 6)) .nil)))
  (.cons (.ret (.ife (.cmp .eq (.sub (.var 1) (.int 0)) (.str "all")) (.bi .all (.cons (.var 5) .nil)) (.bi .any (.cons (.var 5) .nil))))
  .nil)))))
theorem all_filter {α : Type} (p q : α → Bool) (l : List α) : ((l.filter p).map q).all id = l.all fun t => !p t || q t := by
  induction l with
  | nil => rfl
  | cons a l ih =>
    by_cases h : p a = true
    · rw [List.filter_cons_of_pos h, List.map_cons, List.all_cons, ih, List.all_cons, h]; rfl
    · have h' : p a = false := by simpa using h
      rw [List.filter_cons_of_neg h, ih, List.all_cons, h']; rfl
theorem any_filter {α : Type} (p q : α → Bool) (l : List α) : ((l.filter p).map q).any id = l.any fun t => p t && q t := by
  induction l with
  | nil => rfl
  | cons a l ih =>
    by_cases h : p a = true
    · rw [List.filter_cons_of_pos h, List.map_cons, List.any_cons, ih, List.any_cons, h]; rfl
    · have h' : p a = false := by simpa using h
      rw [List.filter_cons_of_neg h, ih, List.any_cons, h']; rfl
theorem cut3 (a b c : D) : cut [a, b, c] none (some 3) = [a, b, c] := rfl
theorem cut3' (a b c d : D) : cut [a, b, c, d] none (some 3) = [a, b, c] := rfl
theorem holds_sp {T : Tb} (sz : SizeSp (T.fn 169)) : HoldsSp (mkF 7 (semSs T irHolds)) := by
  intro w s d h hs hl
  apply fn_eq
  obtain ⟨live, e1, e2, _⟩ := seq_walk hs
  have eb : ∀ a b : Int, D.bools ((wsD w).filterMap (pick (fun t => decide (a ∈ t)) fun t => .bl (decide (b ∈ t)))) = some ((w.filter fun t => decide (a ∈ t)).map fun t => decide (b ∈ t)) := fun a b => by
    rw [pick_ws]; exact bools_map _ _
  cases s with
  | lea a n => simp [irHolds, Sen.d, fn_mkF, semSs, semS, sems, sem, mean, ok_seq, ok_thenN, ok_drop, ok_mRet, ok_mPar, ok_bind', ok_bind, ok_pure, ok_pure', ok_val, ok_tmp, ok_bl, ok_ite, ok_call, ok_lc, ok_lc2, ok_op2, ok_cmp, ok_truth, ok_subO, ok_cutO, ok_revO, ok_negO, ok_intOf, ok_bi, ok_meth, ok_metOk, ok_putO, ok_isi, ok_mVar, ok_toD, ok_stO, ok_rvO, ok_asB, ok_settle, ok_mRng, ok_walkO, ok_enumO, ok_ssetO, ok_put, ok_putT, ok_puts0, ok_putsC, ok_setNode, ok_mDs0, ok_mDsC, ok_mOs0, ok_mOsC, ok_mPart0, ok_mPart1, ok_mIfs0, ok_mIfsC, okM_ok, okM_stuck, okM_exc, okM_ite, Ty.below, atI_nat, atI_0, atI_1, atI_2, atI_3, atI_4, atI_5, atI_6, atI_7, atI_last, q_dII, q_dSS, q_dBB, q_dNN, q_dTT, q_dNI, q_dIN, q_dSI, q_dIS, q_dIT, q_dTI, q_dNT, q_dTN, q_dST, q_dTS, q_ds0, q_dsC, q_dsL, q_dsR, q_fI, q_fB, q_fN, q_fT, q_fS, q_f0, q_fC, q_mVar, q_toDv, q_toDt, q_toDo, q_stOv, q_stOt, q_stOo, q_rvOv, q_rvOt, q_rvOo, q_put, q_addI, q_addT, q_addS, q_subI, q_mulI, q_fdivI, q_modI, q_powI, q_shlI, q_shrI, q_addLtt, q_addLot, q_addLoo, q_neg, q_eq, q_ne, q_eqI, q_eqS, q_eqB, q_eqIB, q_eqBI, q_eqT, q_eqSI, q_eqIS, q_eqIT, q_eqTI, q_eqNI, q_eqIN, q_is, q_isnt, q_isNnon, q_isNint, q_isNbl, q_isNstr, q_isNtup, q_isNref, q_lt, q_gt, q_le, q_leT, q_ge, q_in, q_notin, q_trN, q_trB, q_trI, q_trT, q_trS, q_asB, q_subT, q_subR, q_subO, q_subM, q_nodeO, q_nodeR, q_nodeM, q_cutT, q_cutR, q_revT, q_intOf, q_lstR, q_lstM, q_lstO, q_lenT, q_lenS, q_lenR, q_lenO, q_lenM, q_abs, q_intI, q_intB, q_allM, q_anyM, q_sumM, q_tupT, q_tupM, q_tupO, q_tupR, q_listT, q_listM, q_listR, q_listO, q_isi, q_tyN, q_tyB, q_tyI, q_tyS, q_tyT, q_tyR, q_metOk, q_append, q_pop, q_popI, q_setO, q_setR, q_putO, q_walkT, q_walkM, q_walkR, q_walkO, q_setN, q_setM, q_setV, q_setlO, q_rng1, q_rng2, q_settV, q_settT, q_settO, q_opdV, q_opdN, q_addO, q_appL, q_popL, q_sortT, q_sortM, q_sortR, q_sortO, q_sset, q_max, q_min, q_mulT, q_cutO, q_cutM, q_enT, q_enM, q_inIT, q_inTT, q_inIR, q_eqMM, q_extend, q_insert, q_extL, q_insL, q_allO, q_allR, q_anyO, q_anyR, q_sumO, q_sumR, gc_same, fn_ret (sz w a d h hs hl), holdsW]
  | mor a b n => simp [irHolds, Sen.d, fn_mkF, semSs, semS, sems, sem, mean, ok_seq, ok_thenN, ok_drop, ok_mRet, ok_mPar, ok_bind', ok_bind, ok_pure, ok_pure', ok_val, ok_tmp, ok_bl, ok_ite, ok_call, ok_lc, ok_lc2, ok_op2, ok_cmp, ok_truth, ok_subO, ok_cutO, ok_revO, ok_negO, ok_intOf, ok_bi, ok_meth, ok_metOk, ok_putO, ok_isi, ok_mVar, ok_toD, ok_stO, ok_rvO, ok_asB, ok_settle, ok_mRng, ok_walkO, ok_enumO, ok_ssetO, ok_put, ok_putT, ok_puts0, ok_putsC, ok_setNode, ok_mDs0, ok_mDsC, ok_mOs0, ok_mOsC, ok_mPart0, ok_mPart1, ok_mIfs0, ok_mIfsC, okM_ok, okM_stuck, okM_exc, okM_ite, Ty.below, atI_nat, atI_0, atI_1, atI_2, atI_3, atI_4, atI_5, atI_6, atI_7, atI_last, q_dII, q_dSS, q_dBB, q_dNN, q_dTT, q_dNI, q_dIN, q_dSI, q_dIS, q_dIT, q_dTI, q_dNT, q_dTN, q_dST, q_dTS, q_ds0, q_dsC, q_dsL, q_dsR, q_fI, q_fB, q_fN, q_fT, q_fS, q_f0, q_fC, q_mVar, q_toDv, q_toDt, q_toDo, q_stOv, q_stOt, q_stOo, q_rvOv, q_rvOt, q_rvOo, q_put, q_addI, q_addT, q_addS, q_subI, q_mulI, q_fdivI, q_modI, q_powI, q_shlI, q_shrI, q_addLtt, q_addLot, q_addLoo, q_neg, q_eq, q_ne, q_eqI, q_eqS, q_eqB, q_eqIB, q_eqBI, q_eqT, q_eqSI, q_eqIS, q_eqIT, q_eqTI, q_eqNI, q_eqIN, q_is, q_isnt, q_isNnon, q_isNint, q_isNbl, q_isNstr, q_isNtup, q_isNref, q_lt, q_gt, q_le, q_leT, q_ge, q_in, q_notin, q_trN, q_trB, q_trI, q_trT, q_trS, q_asB, q_subT, q_subR, q_subO, q_subM, q_nodeO, q_nodeR, q_nodeM, q_cutT, q_cutR, q_revT, q_intOf, q_lstR, q_lstM, q_lstO, q_lenT, q_lenS, q_lenR, q_lenO, q_lenM, q_abs, q_intI, q_intB, q_allM, q_anyM, q_sumM, q_tupT, q_tupM, q_tupO, q_tupR, q_listT, q_listM, q_listR, q_listO, q_isi, q_tyN, q_tyB, q_tyI, q_tyS, q_tyT, q_tyR, q_metOk, q_append, q_pop, q_popI, q_setO, q_setR, q_putO, q_walkT, q_walkM, q_walkR, q_walkO, q_setN, q_setM, q_setV, q_setlO, q_rng1, q_rng2, q_settV, q_settT, q_settO, q_opdV, q_opdN, q_addO, q_appL, q_popL, q_sortT, q_sortM, q_sortR, q_sortO, q_sset, q_max, q_min, q_mulT, q_cutO, q_cutM, q_enT, q_enM, q_inIT, q_inTT, q_inIR, q_eqMM, q_extend, q_insert, q_extL, q_insL, q_allO, q_allR, q_anyO, q_anyR, q_sumO, q_sumR, gc_same, -beq_iff_eq, -beq_eq_false_iff_ne, str8, cut3', fn_ret (sz w a d h hs hl), fn_ret (sz w b d h hs hl), holdsW]
  | all a b =>
    simp [irHolds, Sen.d, fn_mkF, semSs, semS, sems, sem, mean, ok_seq, ok_thenN, ok_drop, ok_mRet, ok_mPar, ok_bind', ok_bind, ok_pure, ok_pure', ok_val, ok_tmp, ok_bl, ok_ite, ok_call, ok_lc, ok_lc2, ok_op2, ok_cmp, ok_truth, ok_subO, ok_cutO, ok_revO, ok_negO, ok_intOf, ok_bi, ok_meth, ok_metOk, ok_putO, ok_isi, ok_mVar, ok_toD, ok_stO, ok_rvO, ok_asB, ok_settle, ok_mRng, ok_walkO, ok_enumO, ok_ssetO, ok_put, ok_putT, ok_puts0, ok_putsC, ok_setNode, ok_mDs0, ok_mDsC, ok_mOs0, ok_mOsC, ok_mPart0, ok_mPart1, ok_mIfs0, ok_mIfsC, okM_ok, okM_stuck, okM_exc, okM_ite, Ty.below, atI_nat, atI_0, atI_1, atI_2, atI_3, atI_4, atI_5, atI_6, atI_7, atI_last, q_dII, q_dSS, q_dBB, q_dNN, q_dTT, q_dNI, q_dIN, q_dSI, q_dIS, q_dIT, q_dTI, q_dNT, q_dTN, q_dST, q_dTS, q_ds0, q_dsC, q_dsL, q_dsR, q_fI, q_fB, q_fN, q_fT, q_fS, q_f0, q_fC, q_mVar, q_toDv, q_toDt, q_toDo, q_stOv, q_stOt, q_stOo, q_rvOv, q_rvOt, q_rvOo, q_put, q_addI, q_addT, q_addS, q_subI, q_mulI, q_fdivI, q_modI, q_powI, q_shlI, q_shrI, q_addLtt, q_addLot, q_addLoo, q_neg, q_eq, q_ne, q_eqI, q_eqS, q_eqB, q_eqIB, q_eqBI, q_eqT, q_eqSI, q_eqIS, q_eqIT, q_eqTI, q_eqNI, q_eqIN, q_is, q_isnt, q_isNnon, q_isNint, q_isNbl, q_isNstr, q_isNtup, q_isNref, q_lt, q_gt, q_le, q_leT, q_ge, q_in, q_notin, q_trN, q_trB, q_trI, q_trT, q_trS, q_asB, q_subT, q_subR, q_subO, q_subM, q_nodeO, q_nodeR, q_nodeM, q_cutT, q_cutR, q_revT, q_intOf, q_lstR, q_lstM, q_lstO, q_lenT, q_lenS, q_lenR, q_lenO, q_lenM, q_abs, q_intI, q_intB, q_allM, q_anyM, q_sumM, q_tupT, q_tupM, q_tupO, q_tupR, q_listT, q_listM, q_listR, q_listO, q_isi, q_tyN, q_tyB, q_tyI, q_tyS, q_tyT, q_tyR, q_metOk, q_append, q_pop, q_popI, q_setO, q_setR, q_putO, q_walkT, q_walkM, q_walkR, q_walkO, q_setN, q_setM, q_setV, q_setlO, q_rng1, q_rng2, q_settV, q_settT, q_settO, q_opdV, q_opdN, q_addO, q_appL, q_popL, q_sortT, q_sortM, q_sortR, q_sortO, q_sset, q_max, q_min, q_mulT, q_cutO, q_cutM, q_enT, q_enM, q_inIT, q_inTT, q_inIR, q_eqMM, q_extend, q_insert, q_extL, q_insL, q_allO, q_allR, q_anyO, q_anyR, q_sumO, q_sumR, gc_same, -beq_iff_eq, -beq_eq_false_iff_ne, str6, str7, cut3, wipe, e1]
    refine ok_lc_pure (w := ⟨wsD w, live⟩) (own := [6]) (sl := [.val d, .val (.tup [.str "all", .int a, .int b]), .val (.str "all"), .val (.int a), .val (.int b), .unset, .unset]) (pick (fun t => decide (a ∈ t)) fun t => .bl (decide (b ∈ t))) (e2 _) (by rw [ws_len]; exact hl) (fun x hx => ?_) ?_
    · obtain ⟨t, ht, rfl⟩ := List.mem_map.mp hx
      rw [pick_t]
      have ef := flat_ints 60 t
      have ea := any_ints a t
      have ea2 := any_ints b t
      by_cases hi : a ∈ t
      · simp [wipe, tD, fn_mkF, semSs, semS, sems, sem, mean, ok_seq, ok_thenN, ok_drop, ok_mRet, ok_mPar, ok_bind', ok_bind, ok_pure, ok_pure', ok_val, ok_tmp, ok_bl, ok_ite, ok_call, ok_lc, ok_lc2, ok_op2, ok_cmp, ok_truth, ok_subO, ok_cutO, ok_revO, ok_negO, ok_intOf, ok_bi, ok_meth, ok_metOk, ok_putO, ok_isi, ok_mVar, ok_toD, ok_stO, ok_rvO, ok_asB, ok_settle, ok_mRng, ok_walkO, ok_enumO, ok_ssetO, ok_put, ok_putT, ok_puts0, ok_putsC, ok_setNode, ok_mDs0, ok_mDsC, ok_mOs0, ok_mOsC, ok_mPart0, ok_mPart1, ok_mIfs0, ok_mIfsC, okM_ok, okM_stuck, okM_exc, okM_ite, Ty.below, atI_nat, atI_0, atI_1, atI_2, atI_3, atI_4, atI_5, atI_6, atI_7, atI_last, q_dII, q_dSS, q_dBB, q_dNN, q_dTT, q_dNI, q_dIN, q_dSI, q_dIS, q_dIT, q_dTI, q_dNT, q_dTN, q_dST, q_dTS, q_ds0, q_dsC, q_dsL, q_dsR, q_fI, q_fB, q_fN, q_fT, q_fS, q_f0, q_fC, q_mVar, q_toDv, q_toDt, q_toDo, q_stOv, q_stOt, q_stOo, q_rvOv, q_rvOt, q_rvOo, q_put, q_addI, q_addT, q_addS, q_subI, q_mulI, q_fdivI, q_modI, q_powI, q_shlI, q_shrI, q_addLtt, q_addLot, q_addLoo, q_neg, q_eq, q_ne, q_eqI, q_eqS, q_eqB, q_eqIB, q_eqBI, q_eqT, q_eqSI, q_eqIS, q_eqIT, q_eqTI, q_eqNI, q_eqIN, q_is, q_isnt, q_isNnon, q_isNint, q_isNbl, q_isNstr, q_isNtup, q_isNref, q_lt, q_gt, q_le, q_leT, q_ge, q_in, q_notin, q_trN, q_trB, q_trI, q_trT, q_trS, q_asB, q_subT, q_subR, q_subO, q_subM, q_nodeO, q_nodeR, q_nodeM, q_cutT, q_cutR, q_revT, q_intOf, q_lstR, q_lstM, q_lstO, q_lenT, q_lenS, q_lenR, q_lenO, q_lenM, q_abs, q_intI, q_intB, q_allM, q_anyM, q_sumM, q_tupT, q_tupM, q_tupO, q_tupR, q_listT, q_listM, q_listR, q_listO, q_isi, q_tyN, q_tyB, q_tyI, q_tyS, q_tyT, q_tyR, q_metOk, q_append, q_pop, q_popI, q_setO, q_setR, q_putO, q_walkT, q_walkM, q_walkR, q_walkO, q_setN, q_setM, q_setV, q_setlO, q_rng1, q_rng2, q_settV, q_settT, q_settO, q_opdV, q_opdN, q_addO, q_appL, q_popL, q_sortT, q_sortM, q_sortR, q_sortO, q_sset, q_max, q_min, q_mulT, q_cutO, q_cutM, q_enT, q_enM, q_inIT, q_inTT, q_inIR, q_eqMM, q_extend, q_insert, q_extL, q_insL, q_allO, q_allR, q_anyO, q_anyR, q_sumO, q_sumR, flat_int_k, ef, ea, ea2, hi]
      · simp [wipe, tD, fn_mkF, semSs, semS, sems, sem, mean, ok_seq, ok_thenN, ok_drop, ok_mRet, ok_mPar, ok_bind', ok_bind, ok_pure, ok_pure', ok_val, ok_tmp, ok_bl, ok_ite, ok_call, ok_lc, ok_lc2, ok_op2, ok_cmp, ok_truth, ok_subO, ok_cutO, ok_revO, ok_negO, ok_intOf, ok_bi, ok_meth, ok_metOk, ok_putO, ok_isi, ok_mVar, ok_toD, ok_stO, ok_rvO, ok_asB, ok_settle, ok_mRng, ok_walkO, ok_enumO, ok_ssetO, ok_put, ok_putT, ok_puts0, ok_putsC, ok_setNode, ok_mDs0, ok_mDsC, ok_mOs0, ok_mOsC, ok_mPart0, ok_mPart1, ok_mIfs0, ok_mIfsC, okM_ok, okM_stuck, okM_exc, okM_ite, Ty.below, atI_nat, atI_0, atI_1, atI_2, atI_3, atI_4, atI_5, atI_6, atI_7, atI_last, q_dII, q_dSS, q_dBB, q_dNN, q_dTT, q_dNI, q_dIN, q_dSI, q_dIS, q_dIT, q_dTI, q_dNT, q_dTN, q_dST, q_dTS, q_ds0, q_dsC, q_dsL, q_dsR, q_fI, q_fB, q_fN, q_fT, q_fS, q_f0, q_fC, q_mVar, q_toDv, q_toDt, q_toDo, q_stOv, q_stOt, q_stOo, q_rvOv, q_rvOt, q_rvOo, q_put, q_addI, q_addT, q_addS, q_subI, q_mulI, q_fdivI, q_modI, q_powI, q_shlI, q_shrI, q_addLtt, q_addLot, q_addLoo, q_neg, q_eq, q_ne, q_eqI, q_eqS, q_eqB, q_eqIB, q_eqBI, q_eqT, q_eqSI, q_eqIS, q_eqIT, q_eqTI, q_eqNI, q_eqIN, q_is, q_isnt, q_isNnon, q_isNint, q_isNbl, q_isNstr, q_isNtup, q_isNref, q_lt, q_gt, q_le, q_leT, q_ge, q_in, q_notin, q_trN, q_trB, q_trI, q_trT, q_trS, q_asB, q_subT, q_subR, q_subO, q_subM, q_nodeO, q_nodeR, q_nodeM, q_cutT, q_cutR, q_revT, q_intOf, q_lstR, q_lstM, q_lstO, q_lenT, q_lenS, q_lenR, q_lenO, q_lenM, q_abs, q_intI, q_intB, q_allM, q_anyM, q_sumM, q_tupT, q_tupM, q_tupO, q_tupR, q_listT, q_listM, q_listR, q_listO, q_isi, q_tyN, q_tyB, q_tyI, q_tyS, q_tyT, q_tyR, q_metOk, q_append, q_pop, q_popI, q_setO, q_setR, q_putO, q_walkT, q_walkM, q_walkR, q_walkO, q_setN, q_setM, q_setV, q_setlO, q_rng1, q_rng2, q_settV, q_settT, q_settO, q_opdV, q_opdN, q_addO, q_appL, q_popL, q_sortT, q_sortM, q_sortR, q_sortO, q_sset, q_max, q_min, q_mulT, q_cutO, q_cutM, q_enT, q_enM, q_inIT, q_inTT, q_inIR, q_eqMM, q_extend, q_insert, q_extL, q_insL, q_allO, q_allR, q_anyO, q_anyR, q_sumO, q_sumR, flat_int_k, ef, ea, hi]
    · simp [wipe, unwipe, fn_mkF, semSs, semS, sems, sem, mean, ok_seq, ok_thenN, ok_drop, ok_mRet, ok_mPar, ok_bind', ok_bind, ok_pure, ok_pure', ok_val, ok_tmp, ok_bl, ok_ite, ok_call, ok_lc, ok_lc2, ok_op2, ok_cmp, ok_truth, ok_subO, ok_cutO, ok_revO, ok_negO, ok_intOf, ok_bi, ok_meth, ok_metOk, ok_putO, ok_isi, ok_mVar, ok_toD, ok_stO, ok_rvO, ok_asB, ok_settle, ok_mRng, ok_walkO, ok_enumO, ok_ssetO, ok_put, ok_putT, ok_puts0, ok_putsC, ok_setNode, ok_mDs0, ok_mDsC, ok_mOs0, ok_mOsC, ok_mPart0, ok_mPart1, ok_mIfs0, ok_mIfsC, okM_ok, okM_stuck, okM_exc, okM_ite, Ty.below, atI_nat, atI_0, atI_1, atI_2, atI_3, atI_4, atI_5, atI_6, atI_7, atI_last, q_dII, q_dSS, q_dBB, q_dNN, q_dTT, q_dNI, q_dIN, q_dSI, q_dIS, q_dIT, q_dTI, q_dNT, q_dTN, q_dST, q_dTS, q_ds0, q_dsC, q_dsL, q_dsR, q_fI, q_fB, q_fN, q_fT, q_fS, q_f0, q_fC, q_mVar, q_toDv, q_toDt, q_toDo, q_stOv, q_stOt, q_stOo, q_rvOv, q_rvOt, q_rvOo, q_put, q_addI, q_addT, q_addS, q_subI, q_mulI, q_fdivI, q_modI, q_powI, q_shlI, q_shrI, q_addLtt, q_addLot, q_addLoo, q_neg, q_eq, q_ne, q_eqI, q_eqS, q_eqB, q_eqIB, q_eqBI, q_eqT, q_eqSI, q_eqIS, q_eqIT, q_eqTI, q_eqNI, q_eqIN, q_is, q_isnt, q_isNnon, q_isNint, q_isNbl, q_isNstr, q_isNtup, q_isNref, q_lt, q_gt, q_le, q_leT, q_ge, q_in, q_notin, q_trN, q_trB, q_trI, q_trT, q_trS, q_asB, q_subT, q_subR, q_subO, q_subM, q_nodeO, q_nodeR, q_nodeM, q_cutT, q_cutR, q_revT, q_intOf, q_lstR, q_lstM, q_lstO, q_lenT, q_lenS, q_lenR, q_lenO, q_lenM, q_abs, q_intI, q_intB, q_allM, q_anyM, q_sumM, q_tupT, q_tupM, q_tupO, q_tupR, q_listT, q_listM, q_listR, q_listO, q_isi, q_tyN, q_tyB, q_tyI, q_tyS, q_tyT, q_tyR, q_metOk, q_append, q_pop, q_popI, q_setO, q_setR, q_putO, q_walkT, q_walkM, q_walkR, q_walkO, q_setN, q_setM, q_setV, q_setlO, q_rng1, q_rng2, q_settV, q_settT, q_settO, q_opdV, q_opdN, q_addO, q_appL, q_popL, q_sortT, q_sortM, q_sortR, q_sortO, q_sset, q_max, q_min, q_mulT, q_cutO, q_cutM, q_enT, q_enM, q_inIT, q_inTT, q_inIR, q_eqMM, q_extend, q_insert, q_extL, q_insL, q_allO, q_allR, q_anyO, q_anyR, q_sumO, q_sumR, gc_same, eb, holdsW, -List.all_map, -List.any_map, -List.all_filter, -List.any_filter, all_filter]
  | som a b =>
    simp [irHolds, Sen.d, fn_mkF, semSs, semS, sems, sem, mean, ok_seq, ok_thenN, ok_drop, ok_mRet, ok_mPar, ok_bind', ok_bind, ok_pure, ok_pure', ok_val, ok_tmp, ok_bl, ok_ite, ok_call, ok_lc, ok_lc2, ok_op2, ok_cmp, ok_truth, ok_subO, ok_cutO, ok_revO, ok_negO, ok_intOf, ok_bi, ok_meth, ok_metOk, ok_putO, ok_isi, ok_mVar, ok_toD, ok_stO, ok_rvO, ok_asB, ok_settle, ok_mRng, ok_walkO, ok_enumO, ok_ssetO, ok_put, ok_putT, ok_puts0, ok_putsC, ok_setNode, ok_mDs0, ok_mDsC, ok_mOs0, ok_mOsC, ok_mPart0, ok_mPart1, ok_mIfs0, ok_mIfsC, okM_ok, okM_stuck, okM_exc, okM_ite, Ty.below, atI_nat, atI_0, atI_1, atI_2, atI_3, atI_4, atI_5, atI_6, atI_7, atI_last, q_dII, q_dSS, q_dBB, q_dNN, q_dTT, q_dNI, q_dIN, q_dSI, q_dIS, q_dIT, q_dTI, q_dNT, q_dTN, q_dST, q_dTS, q_ds0, q_dsC, q_dsL, q_dsR, q_fI, q_fB, q_fN, q_fT, q_fS, q_f0, q_fC, q_mVar, q_toDv, q_toDt, q_toDo, q_stOv, q_stOt, q_stOo, q_rvOv, q_rvOt, q_rvOo, q_put, q_addI, q_addT, q_addS, q_subI, q_mulI, q_fdivI, q_modI, q_powI, q_shlI, q_shrI, q_addLtt, q_addLot, q_addLoo, q_neg, q_eq, q_ne, q_eqI, q_eqS, q_eqB, q_eqIB, q_eqBI, q_eqT, q_eqSI, q_eqIS, q_eqIT, q_eqTI, q_eqNI, q_eqIN, q_is, q_isnt, q_isNnon, q_isNint, q_isNbl, q_isNstr, q_isNtup, q_isNref, q_lt, q_gt, q_le, q_leT, q_ge, q_in, q_notin, q_trN, q_trB, q_trI, q_trT, q_trS, q_asB, q_subT, q_subR, q_subO, q_subM, q_nodeO, q_nodeR, q_nodeM, q_cutT, q_cutR, q_revT, q_intOf, q_lstR, q_lstM, q_lstO, q_lenT, q_lenS, q_lenR, q_lenO, q_lenM, q_abs, q_intI, q_intB, q_allM, q_anyM, q_sumM, q_tupT, q_tupM, q_tupO, q_tupR, q_listT, q_listM, q_listR, q_listO, q_isi, q_tyN, q_tyB, q_tyI, q_tyS, q_tyT, q_tyR, q_metOk, q_append, q_pop, q_popI, q_setO, q_setR, q_putO, q_walkT, q_walkM, q_walkR, q_walkO, q_setN, q_setM, q_setV, q_setlO, q_rng1, q_rng2, q_settV, q_settT, q_settO, q_opdV, q_opdN, q_addO, q_appL, q_popL, q_sortT, q_sortM, q_sortR, q_sortO, q_sset, q_max, q_min, q_mulT, q_cutO, q_cutM, q_enT, q_enM, q_inIT, q_inTT, q_inIR, q_eqMM, q_extend, q_insert, q_extL, q_insL, q_allO, q_allR, q_anyO, q_anyR, q_sumO, q_sumR, gc_same, -beq_iff_eq, -beq_eq_false_iff_ne, str9, str2, cut3, wipe, e1]
    refine ok_lc_pure (w := ⟨wsD w, live⟩) (own := [6]) (sl := [.val d, .val (.tup [.str "some", .int a, .int b]), .val (.str "some"), .val (.int a), .val (.int b), .unset, .unset]) (pick (fun t => decide (a ∈ t)) fun t => .bl (decide (b ∈ t))) (e2 _) (by rw [ws_len]; exact hl) (fun x hx => ?_) ?_
    · obtain ⟨t, ht, rfl⟩ := List.mem_map.mp hx
      rw [pick_t]
      have ef := flat_ints 60 t
      have ea := any_ints a t
      have ea2 := any_ints b t
      by_cases hi : a ∈ t
      · simp [wipe, tD, fn_mkF, semSs, semS, sems, sem, mean, ok_seq, ok_thenN, ok_drop, ok_mRet, ok_mPar, ok_bind', ok_bind, ok_pure, ok_pure', ok_val, ok_tmp, ok_bl, ok_ite, ok_call, ok_lc, ok_lc2, ok_op2, ok_cmp, ok_truth, ok_subO, ok_cutO, ok_revO, ok_negO, ok_intOf, ok_bi, ok_meth, ok_metOk, ok_putO, ok_isi, ok_mVar, ok_toD, ok_stO, ok_rvO, ok_asB, ok_settle, ok_mRng, ok_walkO, ok_enumO, ok_ssetO, ok_put, ok_putT, ok_puts0, ok_putsC, ok_setNode, ok_mDs0, ok_mDsC, ok_mOs0, ok_mOsC, ok_mPart0, ok_mPart1, ok_mIfs0, ok_mIfsC, okM_ok, okM_stuck, okM_exc, okM_ite, Ty.below, atI_nat, atI_0, atI_1, atI_2, atI_3, atI_4, atI_5, atI_6, atI_7, atI_last, q_dII, q_dSS, q_dBB, q_dNN, q_dTT, q_dNI, q_dIN, q_dSI, q_dIS, q_dIT, q_dTI, q_dNT, q_dTN, q_dST, q_dTS, q_ds0, q_dsC, q_dsL, q_dsR, q_fI, q_fB, q_fN, q_fT, q_fS, q_f0, q_fC, q_mVar, q_toDv, q_toDt, q_toDo, q_stOv, q_stOt, q_stOo, q_rvOv, q_rvOt, q_rvOo, q_put, q_addI, q_addT, q_addS, q_subI, q_mulI, q_fdivI, q_modI, q_powI, q_shlI, q_shrI, q_addLtt, q_addLot, q_addLoo, q_neg, q_eq, q_ne, q_eqI, q_eqS, q_eqB, q_eqIB, q_eqBI, q_eqT, q_eqSI, q_eqIS, q_eqIT, q_eqTI, q_eqNI, q_eqIN, q_is, q_isnt, q_isNnon, q_isNint, q_isNbl, q_isNstr, q_isNtup, q_isNref, q_lt, q_gt, q_le, q_leT, q_ge, q_in, q_notin, q_trN, q_trB, q_trI, q_trT, q_trS, q_asB, q_subT, q_subR, q_subO, q_subM, q_nodeO, q_nodeR, q_nodeM, q_cutT, q_cutR, q_revT, q_intOf, q_lstR, q_lstM, q_lstO, q_lenT, q_lenS, q_lenR, q_lenO, q_lenM, q_abs, q_intI, q_intB, q_allM, q_anyM, q_sumM, q_tupT, q_tupM, q_tupO, q_tupR, q_listT, q_listM, q_listR, q_listO, q_isi, q_tyN, q_tyB, q_tyI, q_tyS, q_tyT, q_tyR, q_metOk, q_append, q_pop, q_popI, q_setO, q_setR, q_putO, q_walkT, q_walkM, q_walkR, q_walkO, q_setN, q_setM, q_setV, q_setlO, q_rng1, q_rng2, q_settV, q_settT, q_settO, q_opdV, q_opdN, q_addO, q_appL, q_popL, q_sortT, q_sortM, q_sortR, q_sortO, q_sset, q_max, q_min, q_mulT, q_cutO, q_cutM, q_enT, q_enM, q_inIT, q_inTT, q_inIR, q_eqMM, q_extend, q_insert, q_extL, q_insL, q_allO, q_allR, q_anyO, q_anyR, q_sumO, q_sumR, flat_int_k, ef, ea, ea2, hi]
      · simp [wipe, tD, fn_mkF, semSs, semS, sems, sem, mean, ok_seq, ok_thenN, ok_drop, ok_mRet, ok_mPar, ok_bind', ok_bind, ok_pure, ok_pure', ok_val, ok_tmp, ok_bl, ok_ite, ok_call, ok_lc, ok_lc2, ok_op2, ok_cmp, ok_truth, ok_subO, ok_cutO, ok_revO, ok_negO, ok_intOf, ok_bi, ok_meth, ok_metOk, ok_putO, ok_isi, ok_mVar, ok_toD, ok_stO, ok_rvO, ok_asB, ok_settle, ok_mRng, ok_walkO, ok_enumO, ok_ssetO, ok_put, ok_putT, ok_puts0, ok_putsC, ok_setNode, ok_mDs0, ok_mDsC, ok_mOs0, ok_mOsC, ok_mPart0, ok_mPart1, ok_mIfs0, ok_mIfsC, okM_ok, okM_stuck, okM_exc, okM_ite, Ty.below, atI_nat, atI_0, atI_1, atI_2, atI_3, atI_4, atI_5, atI_6, atI_7, atI_last, q_dII, q_dSS, q_dBB, q_dNN, q_dTT, q_dNI, q_dIN, q_dSI, q_dIS, q_dIT, q_dTI, q_dNT, q_dTN, q_dST, q_dTS, q_ds0, q_dsC, q_dsL, q_dsR, q_fI, q_fB, q_fN, q_fT, q_fS, q_f0, q_fC, q_mVar, q_toDv, q_toDt, q_toDo, q_stOv, q_stOt, q_stOo, q_rvOv, q_rvOt, q_rvOo, q_put, q_addI, q_addT, q_addS, q_subI, q_mulI, q_fdivI, q_modI, q_powI, q_shlI, q_shrI, q_addLtt, q_addLot, q_addLoo, q_neg, q_eq, q_ne, q_eqI, q_eqS, q_eqB, q_eqIB, q_eqBI, q_eqT, q_eqSI, q_eqIS, q_eqIT, q_eqTI, q_eqNI, q_eqIN, q_is, q_isnt, q_isNnon, q_isNint, q_isNbl, q_isNstr, q_isNtup, q_isNref, q_lt, q_gt, q_le, q_leT, q_ge, q_in, q_notin, q_trN, q_trB, q_trI, q_trT, q_trS, q_asB, q_subT, q_subR, q_subO, q_subM, q_nodeO, q_nodeR, q_nodeM, q_cutT, q_cutR, q_revT, q_intOf, q_lstR, q_lstM, q_lstO, q_lenT, q_lenS, q_lenR, q_lenO, q_lenM, q_abs, q_intI, q_intB, q_allM, q_anyM, q_sumM, q_tupT, q_tupM, q_tupO, q_tupR, q_listT, q_listM, q_listR, q_listO, q_isi, q_tyN, q_tyB, q_tyI, q_tyS, q_tyT, q_tyR, q_metOk, q_append, q_pop, q_popI, q_setO, q_setR, q_putO, q_walkT, q_walkM, q_walkR, q_walkO, q_setN, q_setM, q_setV, q_setlO, q_rng1, q_rng2, q_settV, q_settT, q_settO, q_opdV, q_opdN, q_addO, q_appL, q_popL, q_sortT, q_sortM, q_sortR, q_sortO, q_sset, q_max, q_min, q_mulT, q_cutO, q_cutM, q_enT, q_enM, q_inIT, q_inTT, q_inIR, q_eqMM, q_extend, q_insert, q_extL, q_insL, q_allO, q_allR, q_anyO, q_anyR, q_sumO, q_sumR, flat_int_k, ef, ea, hi]
    · simp [wipe, unwipe, fn_mkF, semSs, semS, sems, sem, mean, ok_seq, ok_thenN, ok_drop, ok_mRet, ok_mPar, ok_bind', ok_bind, ok_pure, ok_pure', ok_val, ok_tmp, ok_bl, ok_ite, ok_call, ok_lc, ok_lc2, ok_op2, ok_cmp, ok_truth, ok_subO, ok_cutO, ok_revO, ok_negO, ok_intOf, ok_bi, ok_meth, ok_metOk, ok_putO, ok_isi, ok_mVar, ok_toD, ok_stO, ok_rvO, ok_asB, ok_settle, ok_mRng, ok_walkO, ok_enumO, ok_ssetO, ok_put, ok_putT, ok_puts0, ok_putsC, ok_setNode, ok_mDs0, ok_mDsC, ok_mOs0, ok_mOsC, ok_mPart0, ok_mPart1, ok_mIfs0, ok_mIfsC, okM_ok, okM_stuck, okM_exc, okM_ite, Ty.below, atI_nat, atI_0, atI_1, atI_2, atI_3, atI_4, atI_5, atI_6, atI_7, atI_last, q_dII, q_dSS, q_dBB, q_dNN, q_dTT, q_dNI, q_dIN, q_dSI, q_dIS, q_dIT, q_dTI, q_dNT, q_dTN, q_dST, q_dTS, q_ds0, q_dsC, q_dsL, q_dsR, q_fI, q_fB, q_fN, q_fT, q_fS, q_f0, q_fC, q_mVar, q_toDv, q_toDt, q_toDo, q_stOv, q_stOt, q_stOo, q_rvOv, q_rvOt, q_rvOo, q_put, q_addI, q_addT, q_addS, q_subI, q_mulI, q_fdivI, q_modI, q_powI, q_shlI, q_shrI, q_addLtt, q_addLot, q_addLoo, q_neg, q_eq, q_ne, q_eqI, q_eqS, q_eqB, q_eqIB, q_eqBI, q_eqT, q_eqSI, q_eqIS, q_eqIT, q_eqTI, q_eqNI, q_eqIN, q_is, q_isnt, q_isNnon, q_isNint, q_isNbl, q_isNstr, q_isNtup, q_isNref, q_lt, q_gt, q_le, q_leT, q_ge, q_in, q_notin, q_trN, q_trB, q_trI, q_trT, q_trS, q_asB, q_subT, q_subR, q_subO, q_subM, q_nodeO, q_nodeR, q_nodeM, q_cutT, q_cutR, q_revT, q_intOf, q_lstR, q_lstM, q_lstO, q_lenT, q_lenS, q_lenR, q_lenO, q_lenM, q_abs, q_intI, q_intB, q_allM, q_anyM, q_sumM, q_tupT, q_tupM, q_tupO, q_tupR, q_listT, q_listM, q_listR, q_listO, q_isi, q_tyN, q_tyB, q_tyI, q_tyS, q_tyT, q_tyR, q_metOk, q_append, q_pop, q_popI, q_setO, q_setR, q_putO, q_walkT, q_walkM, q_walkR, q_walkO, q_setN, q_setM, q_setV, q_setlO, q_rng1, q_rng2, q_settV, q_settT, q_settO, q_opdV, q_opdN, q_addO, q_appL, q_popL, q_sortT, q_sortM, q_sortR, q_sortO, q_sset, q_max, q_min, q_mulT, q_cutO, q_cutM, q_enT, q_enM, q_inIT, q_inTT, q_inIR, q_eqMM, q_extend, q_insert, q_extL, q_insL, q_allO, q_allR, q_anyO, q_anyR, q_sumO, q_sumR, gc_same, eb, holdsW, -beq_iff_eq, -beq_eq_false_iff_ne, str1, -List.all_map, -List.any_map, -List.all_filter, -List.any_filter, any_filter]
end G

/-! G5: broken, is_world, thinned, without_lot; the law's own holds, is_good, thinned. -/
set_option linter.all false
set_option maxRecDepth 100000
set_option Elab.async false
set_option autoImplicit false
set_option maxHeartbeats 0
namespace G
open PySem Y
/-- a comprehension over what stands for l -/
theorem ok_lc_of {α : Type} (l : List α) (enc : α → D) (g : α → Option D) {own : List Nat} {elt : M Opd} {t : Tg} {ifs : M Bool} {w : Walk} {sl : List Slot} {hp : List Node} {Q : List D → St → Prop} (hds : w.ds = l.map enc) (hw : w.same ⟨wipe own sl, hp⟩ = true) (hl : l.length ≤ lim)
    (h : ∀ a ∈ l, Ok (t.put (enc a)) ⟨wipe own sl, hp⟩ fun _ s1 => Ok ifs s1 fun b s2 => if b = true then Ok elt s2 (fun o s3 => Ok (toD o) s3 fun e s4 => g a = some e ∧ wipe own s4.sl = wipe own sl ∧ s4.hp = hp) else g a = none ∧ wipe own s2.sl = wipe own sl ∧ s2.hp = hp)
    (q : Q (l.filterMap g) ⟨wipe own sl, hp⟩) : Ok (lcGo w own elt t ifs w.ds []) ⟨wipe own sl, hp⟩ Q := by
  rw [hds]
  refine ok_lcGo (fun ds acc hp' => hp' = hp ∧ ∃ pre post, l = pre ++ post ∧ ds = post.map enc ∧ acc = pre.filterMap g) ?_ ?_ _ [] hp ⟨rfl, [], l, rfl, rfl, rfl⟩
  · rintro d ds acc hp' ⟨rfl, pre, post, e, e2, rfl⟩
    cases post with
    | nil => cases e2
    | cons a post =>
      simp only [List.map_cons, List.cons.injEq] at e2
      obtain ⟨rfl, rfl⟩ := e2
      have ha : a ∈ l := by rw [e]; simp
      have hlen : (pre.filterMap g).length < lim := by
        have a1 := List.length_filterMap_le g pre
        have a2 := congrArg List.length e
        rw [List.length_append, List.length_cons] at a2
        omega
      refine ⟨hw, (h a ha).mono fun _ s1 h1 => h1.mono fun b s2 h2 => ?_⟩
      split
      · rename_i hb
        rw [if_pos hb] at h2
        refine h2.mono fun o s3 h3 => h3.mono fun x s4 h4 => ?_
        obtain ⟨q1, q2, q3⟩ := h4
        exact ⟨hlen, q2, q3, pre ++ [a], post, by rw [e]; simp, rfl, by rw [List.filterMap_append]; simp [q1]⟩
      · rename_i hb
        rw [if_neg hb] at h2
        obtain ⟨q1, q2, q3⟩ := h2
        exact ⟨q2, q3, pre ++ [a], post, by rw [e]; simp, rfl, by rw [List.filterMap_append]; simp [q1]⟩
  · rintro acc hp' ⟨rfl, pre, post, e, e2, rfl⟩
    have : post = [] := by simpa using e2.symm
    subst this
    rw [List.append_nil] at e
    subst e
    exact ⟨hw, q⟩
theorem enF_zip {α : Type} (f : α → D) : ∀ (l : List α) (k : Nat), enF k (l.map f) = (l.zipIdx k).map fun p => .tup [.int (p.2 : Int), f p.1]
  | [], k => rfl
  | a :: l, k => by simp only [List.map_cons, enF, List.zipIdx_cons, enF_zip f l (k + 1)]
theorem all_zip {α : Type} (p : α → Bool) : ∀ (l : List α) (k : Nat), (l.zipIdx k).all (fun x => p x.1) = l.all p
  | [], k => rfl
  | a :: l, k => by simp only [List.zipIdx_cons, List.all_cons, all_zip p l (k + 1)]
theorem none_all {α β : Type} (p : α → Bool) (f : α → β) : ∀ l : List α, (l.filterMap fun a => if p a = true then none else some (f a)).isEmpty = l.all p
  | [] => rfl
  | a :: l => by
    by_cases h : p a = true
    · simp only [List.filterMap_cons, h, if_true, List.all_cons, Bool.true_and, none_all p f l]
    · have h' : p a = false := by simpa using h
      simp [List.filterMap_cons, h']
def BrokenSp (f : FnD) : Prop := ∀ (names : List D) (ss : List Sen) (w : List (List Int)) (d : D) (h : List Node), SeqD d h (wsD w) → w.length ≤ lim → ss.length ≤ lim → ∃ xs, f [bk names ss, d] h = .ret (.val (.tup xs)) h ∧ xs.isEmpty = ss.all (holdsW w)
def irBroken : ISs := (.cons (.ret (.bi .tuple (.cons (.lc [2, 3] (.var 2) (.tup [(.name 2), (.name 3)]) (.enum (.sub (.var 0) (.int 1))) (.cons (.not (.call 64 (.cons (.var 1) (.cons (.var 3) .nil)))) .nil)) .nil)))
  .nil)
theorem broken_sp {T : Tb} (ho : HoldsSp (T.fn 64)) : BrokenSp (mkF 4 (semSs T irBroken)) := by
  intro names ss w d h hs hl hl2
  refine ⟨(ss.zipIdx 0).filterMap fun p => if holdsW w p.1 = true then none else some (D.int (p.2 : Int)), ?_, ?_⟩
  · apply fn_eq
    simp [irBroken, bk, fn_mkF, semSs, semS, sems, sem, mean, ok_seq, ok_thenN, ok_drop, ok_mRet, ok_mPar, ok_bind', ok_bind, ok_pure, ok_pure', ok_val, ok_tmp, ok_bl, ok_ite, ok_call, ok_lc, ok_lc2, ok_op2, ok_cmp, ok_truth, ok_subO, ok_cutO, ok_revO, ok_negO, ok_intOf, ok_bi, ok_meth, ok_metOk, ok_putO, ok_isi, ok_mVar, ok_toD, ok_stO, ok_rvO, ok_asB, ok_settle, ok_mRng, ok_walkO, ok_enumO, ok_ssetO, ok_put, ok_putT, ok_puts0, ok_putsC, ok_setNode, ok_mDs0, ok_mDsC, ok_mOs0, ok_mOsC, ok_mPart0, ok_mPart1, ok_mIfs0, ok_mIfsC, okM_ok, okM_stuck, okM_exc, okM_ite, Ty.below, atI_nat, atI_0, atI_1, atI_2, atI_3, atI_4, atI_5, atI_6, atI_7, atI_last, q_dII, q_dSS, q_dBB, q_dNN, q_dTT, q_dNI, q_dIN, q_dSI, q_dIS, q_dIT, q_dTI, q_dNT, q_dTN, q_dST, q_dTS, q_ds0, q_dsC, q_dsL, q_dsR, q_fI, q_fB, q_fN, q_fT, q_fS, q_f0, q_fC, q_mVar, q_toDv, q_toDt, q_toDo, q_stOv, q_stOt, q_stOo, q_rvOv, q_rvOt, q_rvOo, q_put, q_addI, q_addT, q_addS, q_subI, q_mulI, q_fdivI, q_modI, q_powI, q_shlI, q_shrI, q_addLtt, q_addLot, q_addLoo, q_neg, q_eq, q_ne, q_eqI, q_eqS, q_eqB, q_eqIB, q_eqBI, q_eqT, q_eqSI, q_eqIS, q_eqIT, q_eqTI, q_eqNI, q_eqIN, q_is, q_isnt, q_isNnon, q_isNint, q_isNbl, q_isNstr, q_isNtup, q_isNref, q_lt, q_gt, q_le, q_leT, q_ge, q_in, q_notin, q_trN, q_trB, q_trI, q_trT, q_trS, q_asB, q_subT, q_subR, q_subO, q_subM, q_nodeO, q_nodeR, q_nodeM, q_cutT, q_cutR, q_revT, q_intOf, q_lstR, q_lstM, q_lstO, q_lenT, q_lenS, q_lenR, q_lenO, q_lenM, q_abs, q_intI, q_intB, q_allM, q_anyM, q_sumM, q_tupT, q_tupM, q_tupO, q_tupR, q_listT, q_listM, q_listR, q_listO, q_isi, q_tyN, q_tyB, q_tyI, q_tyS, q_tyT, q_tyR, q_metOk, q_append, q_pop, q_popI, q_setO, q_setR, q_putO, q_walkT, q_walkM, q_walkR, q_walkO, q_setN, q_setM, q_setV, q_setlO, q_rng1, q_rng2, q_settV, q_settT, q_settO, q_opdV, q_opdN, q_addO, q_appL, q_popL, q_sortT, q_sortM, q_sortR, q_sortO, q_sset, q_max, q_min, q_mulT, q_cutO, q_cutM, q_enT, q_enM, q_inIT, q_inTT, q_inIR, q_eqMM, q_extend, q_insert, q_extL, q_insL, q_allO, q_allR, q_anyO, q_anyR, q_sumO, q_sumR, gc_same, wipe]
    refine ok_lc_of (ss.zipIdx 0) (fun p => .tup [.int (p.2 : Int), p.1.d]) (fun p => if holdsW w p.1 = true then none else some (D.int (p.2 : Int))) (w := ⟨enF 0 (ss.map Sen.d), none⟩) (own := [2, 3]) (sl := [.val (.tup [.tup names, .tup (ss.map Sen.d)]), .val d, .unset, .unset]) (enF_zip _ _ _) rfl (by simpa using hl2) (fun p hp => ?_) ?_
    · obtain ⟨s, i⟩ := p
      by_cases hh : holdsW w s = true
      · simp [wipe, fn_mkF, semSs, semS, sems, sem, mean, ok_seq, ok_thenN, ok_drop, ok_mRet, ok_mPar, ok_bind', ok_bind, ok_pure, ok_pure', ok_val, ok_tmp, ok_bl, ok_ite, ok_call, ok_lc, ok_lc2, ok_op2, ok_cmp, ok_truth, ok_subO, ok_cutO, ok_revO, ok_negO, ok_intOf, ok_bi, ok_meth, ok_metOk, ok_putO, ok_isi, ok_mVar, ok_toD, ok_stO, ok_rvO, ok_asB, ok_settle, ok_mRng, ok_walkO, ok_enumO, ok_ssetO, ok_put, ok_putT, ok_puts0, ok_putsC, ok_setNode, ok_mDs0, ok_mDsC, ok_mOs0, ok_mOsC, ok_mPart0, ok_mPart1, ok_mIfs0, ok_mIfsC, okM_ok, okM_stuck, okM_exc, okM_ite, Ty.below, atI_nat, atI_0, atI_1, atI_2, atI_3, atI_4, atI_5, atI_6, atI_7, atI_last, q_dII, q_dSS, q_dBB, q_dNN, q_dTT, q_dNI, q_dIN, q_dSI, q_dIS, q_dIT, q_dTI, q_dNT, q_dTN, q_dST, q_dTS, q_ds0, q_dsC, q_dsL, q_dsR, q_fI, q_fB, q_fN, q_fT, q_fS, q_f0, q_fC, q_mVar, q_toDv, q_toDt, q_toDo, q_stOv, q_stOt, q_stOo, q_rvOv, q_rvOt, q_rvOo, q_put, q_addI, q_addT, q_addS, q_subI, q_mulI, q_fdivI, q_modI, q_powI, q_shlI, q_shrI, q_addLtt, q_addLot, q_addLoo, q_neg, q_eq, q_ne, q_eqI, q_eqS, q_eqB, q_eqIB, q_eqBI, q_eqT, q_eqSI, q_eqIS, q_eqIT, q_eqTI, q_eqNI, q_eqIN, q_is, q_isnt, q_isNnon, q_isNint, q_isNbl, q_isNstr, q_isNtup, q_isNref, q_lt, q_gt, q_le, q_leT, q_ge, q_in, q_notin, q_trN, q_trB, q_trI, q_trT, q_trS, q_asB, q_subT, q_subR, q_subO, q_subM, q_nodeO, q_nodeR, q_nodeM, q_cutT, q_cutR, q_revT, q_intOf, q_lstR, q_lstM, q_lstO, q_lenT, q_lenS, q_lenR, q_lenO, q_lenM, q_abs, q_intI, q_intB, q_allM, q_anyM, q_sumM, q_tupT, q_tupM, q_tupO, q_tupR, q_listT, q_listM, q_listR, q_listO, q_isi, q_tyN, q_tyB, q_tyI, q_tyS, q_tyT, q_tyR, q_metOk, q_append, q_pop, q_popI, q_setO, q_setR, q_putO, q_walkT, q_walkM, q_walkR, q_walkO, q_setN, q_setM, q_setV, q_setlO, q_rng1, q_rng2, q_settV, q_settT, q_settO, q_opdV, q_opdN, q_addO, q_appL, q_popL, q_sortT, q_sortM, q_sortR, q_sortO, q_sset, q_max, q_min, q_mulT, q_cutO, q_cutM, q_enT, q_enM, q_inIT, q_inTT, q_inIR, q_eqMM, q_extend, q_insert, q_extL, q_insL, q_allO, q_allR, q_anyO, q_anyR, q_sumO, q_sumR, fn_ret (ho w s d h hs hl), hh]
      · simp [wipe, fn_mkF, semSs, semS, sems, sem, mean, ok_seq, ok_thenN, ok_drop, ok_mRet, ok_mPar, ok_bind', ok_bind, ok_pure, ok_pure', ok_val, ok_tmp, ok_bl, ok_ite, ok_call, ok_lc, ok_lc2, ok_op2, ok_cmp, ok_truth, ok_subO, ok_cutO, ok_revO, ok_negO, ok_intOf, ok_bi, ok_meth, ok_metOk, ok_putO, ok_isi, ok_mVar, ok_toD, ok_stO, ok_rvO, ok_asB, ok_settle, ok_mRng, ok_walkO, ok_enumO, ok_ssetO, ok_put, ok_putT, ok_puts0, ok_putsC, ok_setNode, ok_mDs0, ok_mDsC, ok_mOs0, ok_mOsC, ok_mPart0, ok_mPart1, ok_mIfs0, ok_mIfsC, okM_ok, okM_stuck, okM_exc, okM_ite, Ty.below, atI_nat, atI_0, atI_1, atI_2, atI_3, atI_4, atI_5, atI_6, atI_7, atI_last, q_dII, q_dSS, q_dBB, q_dNN, q_dTT, q_dNI, q_dIN, q_dSI, q_dIS, q_dIT, q_dTI, q_dNT, q_dTN, q_dST, q_dTS, q_ds0, q_dsC, q_dsL, q_dsR, q_fI, q_fB, q_fN, q_fT, q_fS, q_f0, q_fC, q_mVar, q_toDv, q_toDt, q_toDo, q_stOv, q_stOt, q_stOo, q_rvOv, q_rvOt, q_rvOo, q_put, q_addI, q_addT, q_addS, q_subI, q_mulI, q_fdivI, q_modI, q_powI, q_shlI, q_shrI, q_addLtt, q_addLot, q_addLoo, q_neg, q_eq, q_ne, q_eqI, q_eqS, q_eqB, q_eqIB, q_eqBI, q_eqT, q_eqSI, q_eqIS, q_eqIT, q_eqTI, q_eqNI, q_eqIN, q_is, q_isnt, q_isNnon, q_isNint, q_isNbl, q_isNstr, q_isNtup, q_isNref, q_lt, q_gt, q_le, q_leT, q_ge, q_in, q_notin, q_trN, q_trB, q_trI, q_trT, q_trS, q_asB, q_subT, q_subR, q_subO, q_subM, q_nodeO, q_nodeR, q_nodeM, q_cutT, q_cutR, q_revT, q_intOf, q_lstR, q_lstM, q_lstO, q_lenT, q_lenS, q_lenR, q_lenO, q_lenM, q_abs, q_intI, q_intB, q_allM, q_anyM, q_sumM, q_tupT, q_tupM, q_tupO, q_tupR, q_listT, q_listM, q_listR, q_listO, q_isi, q_tyN, q_tyB, q_tyI, q_tyS, q_tyT, q_tyR, q_metOk, q_append, q_pop, q_popI, q_setO, q_setR, q_putO, q_walkT, q_walkM, q_walkR, q_walkO, q_setN, q_setM, q_setV, q_setlO, q_rng1, q_rng2, q_settV, q_settT, q_settO, q_opdV, q_opdN, q_addO, q_appL, q_popL, q_sortT, q_sortM, q_sortR, q_sortO, q_sset, q_max, q_min, q_mulT, q_cutO, q_cutM, q_enT, q_enM, q_inIT, q_inTT, q_inIR, q_eqMM, q_extend, q_insert, q_extL, q_insL, q_allO, q_allR, q_anyO, q_anyR, q_sumO, q_sumR, fn_ret (ho w s d h hs hl), hh]
    · simp [wipe, unwipe, fn_mkF, semSs, semS, sems, sem, mean, ok_seq, ok_thenN, ok_drop, ok_mRet, ok_mPar, ok_bind', ok_bind, ok_pure, ok_pure', ok_val, ok_tmp, ok_bl, ok_ite, ok_call, ok_lc, ok_lc2, ok_op2, ok_cmp, ok_truth, ok_subO, ok_cutO, ok_revO, ok_negO, ok_intOf, ok_bi, ok_meth, ok_metOk, ok_putO, ok_isi, ok_mVar, ok_toD, ok_stO, ok_rvO, ok_asB, ok_settle, ok_mRng, ok_walkO, ok_enumO, ok_ssetO, ok_put, ok_putT, ok_puts0, ok_putsC, ok_setNode, ok_mDs0, ok_mDsC, ok_mOs0, ok_mOsC, ok_mPart0, ok_mPart1, ok_mIfs0, ok_mIfsC, okM_ok, okM_stuck, okM_exc, okM_ite, Ty.below, atI_nat, atI_0, atI_1, atI_2, atI_3, atI_4, atI_5, atI_6, atI_7, atI_last, q_dII, q_dSS, q_dBB, q_dNN, q_dTT, q_dNI, q_dIN, q_dSI, q_dIS, q_dIT, q_dTI, q_dNT, q_dTN, q_dST, q_dTS, q_ds0, q_dsC, q_dsL, q_dsR, q_fI, q_fB, q_fN, q_fT, q_fS, q_f0, q_fC, q_mVar, q_toDv, q_toDt, q_toDo, q_stOv, q_stOt, q_stOo, q_rvOv, q_rvOt, q_rvOo, q_put, q_addI, q_addT, q_addS, q_subI, q_mulI, q_fdivI, q_modI, q_powI, q_shlI, q_shrI, q_addLtt, q_addLot, q_addLoo, q_neg, q_eq, q_ne, q_eqI, q_eqS, q_eqB, q_eqIB, q_eqBI, q_eqT, q_eqSI, q_eqIS, q_eqIT, q_eqTI, q_eqNI, q_eqIN, q_is, q_isnt, q_isNnon, q_isNint, q_isNbl, q_isNstr, q_isNtup, q_isNref, q_lt, q_gt, q_le, q_leT, q_ge, q_in, q_notin, q_trN, q_trB, q_trI, q_trT, q_trS, q_asB, q_subT, q_subR, q_subO, q_subM, q_nodeO, q_nodeR, q_nodeM, q_cutT, q_cutR, q_revT, q_intOf, q_lstR, q_lstM, q_lstO, q_lenT, q_lenS, q_lenR, q_lenO, q_lenM, q_abs, q_intI, q_intB, q_allM, q_anyM, q_sumM, q_tupT, q_tupM, q_tupO, q_tupR, q_listT, q_listM, q_listR, q_listO, q_isi, q_tyN, q_tyB, q_tyI, q_tyS, q_tyT, q_tyR, q_metOk, q_append, q_pop, q_popI, q_setO, q_setR, q_putO, q_walkT, q_walkM, q_walkR, q_walkO, q_setN, q_setM, q_setV, q_setlO, q_rng1, q_rng2, q_settV, q_settT, q_settO, q_opdV, q_opdN, q_addO, q_appL, q_popL, q_sortT, q_sortM, q_sortR, q_sortO, q_sset, q_max, q_min, q_mulT, q_cutO, q_cutM, q_enT, q_enM, q_inIT, q_inTT, q_inIR, q_eqMM, q_extend, q_insert, q_extL, q_insL, q_allO, q_allR, q_anyO, q_anyR, q_sumO, q_sumR, gc_same]
  · rw [none_all (fun p : Sen × Nat => holdsW w p.1)]
    exact all_zip _ _ _
def WorldSp (f : FnD) : Prop := ∀ (names : List D) (ss : List Sen) (w : List (List Int)) (h : List Node), (∀ t ∈ w, GoodT names.length t) → w.length ≤ lim → ss.length ≤ lim → f [bk names ss, wD w] h = .ret (.val (.bl (ss.all (holdsW w)))) h
def irWorld : ISs := (.cons (.ife (.or (.not (.isi [.tuple] (.var 1))) (.not (.bi .all (.cons (.lc [2] (.call 85 (.cons (.bi .len (.cons (.sub (.var 0) (.int 0)) .nil)) (.cons (.var 2) .nil))) (.name 2) (.var 1) .nil) .nil)))) (.cons (.ret (.bl false))
  .nil) .nil)
  (.cons (.ret (.not (.call 25 (.cons (.var 0) (.cons (.var 1) .nil)))))
  .nil))
theorem world_sp {T : Tb} (th : ThingSp (T.fn 85)) (br : BrokenSp (T.fn 25)) : WorldSp (mkF 3 (semSs T irWorld)) := by
  intro names ss w h hg hl hl2
  apply fn_eq
  obtain ⟨xs, ex, ee⟩ := br names ss w (wD w) h (.inl rfl) hl hl2
  have ex' : T.fn 25 [.tup [.tup names, .tup (ss.map Sen.d)], .tup (wsD w)] h = .ret (.val (.tup xs)) h := ex
  simp [irWorld, wD, bk, fn_mkF, semSs, semS, sems, sem, mean, ok_seq, ok_thenN, ok_drop, ok_mRet, ok_mPar, ok_bind', ok_bind, ok_pure, ok_pure', ok_val, ok_tmp, ok_bl, ok_ite, ok_call, ok_lc, ok_lc2, ok_op2, ok_cmp, ok_truth, ok_subO, ok_cutO, ok_revO, ok_negO, ok_intOf, ok_bi, ok_meth, ok_metOk, ok_putO, ok_isi, ok_mVar, ok_toD, ok_stO, ok_rvO, ok_asB, ok_settle, ok_mRng, ok_walkO, ok_enumO, ok_ssetO, ok_put, ok_putT, ok_puts0, ok_putsC, ok_setNode, ok_mDs0, ok_mDsC, ok_mOs0, ok_mOsC, ok_mPart0, ok_mPart1, ok_mIfs0, ok_mIfsC, okM_ok, okM_stuck, okM_exc, okM_ite, Ty.below, atI_nat, atI_0, atI_1, atI_2, atI_3, atI_4, atI_5, atI_6, atI_7, atI_last, q_dII, q_dSS, q_dBB, q_dNN, q_dTT, q_dNI, q_dIN, q_dSI, q_dIS, q_dIT, q_dTI, q_dNT, q_dTN, q_dST, q_dTS, q_ds0, q_dsC, q_dsL, q_dsR, q_fI, q_fB, q_fN, q_fT, q_fS, q_f0, q_fC, q_mVar, q_toDv, q_toDt, q_toDo, q_stOv, q_stOt, q_stOo, q_rvOv, q_rvOt, q_rvOo, q_put, q_addI, q_addT, q_addS, q_subI, q_mulI, q_fdivI, q_modI, q_powI, q_shlI, q_shrI, q_addLtt, q_addLot, q_addLoo, q_neg, q_eq, q_ne, q_eqI, q_eqS, q_eqB, q_eqIB, q_eqBI, q_eqT, q_eqSI, q_eqIS, q_eqIT, q_eqTI, q_eqNI, q_eqIN, q_is, q_isnt, q_isNnon, q_isNint, q_isNbl, q_isNstr, q_isNtup, q_isNref, q_lt, q_gt, q_le, q_leT, q_ge, q_in, q_notin, q_trN, q_trB, q_trI, q_trT, q_trS, q_asB, q_subT, q_subR, q_subO, q_subM, q_nodeO, q_nodeR, q_nodeM, q_cutT, q_cutR, q_revT, q_intOf, q_lstR, q_lstM, q_lstO, q_lenT, q_lenS, q_lenR, q_lenO, q_lenM, q_abs, q_intI, q_intB, q_allM, q_anyM, q_sumM, q_tupT, q_tupM, q_tupO, q_tupR, q_listT, q_listM, q_listR, q_listO, q_isi, q_tyN, q_tyB, q_tyI, q_tyS, q_tyT, q_tyR, q_metOk, q_append, q_pop, q_popI, q_setO, q_setR, q_putO, q_walkT, q_walkM, q_walkR, q_walkO, q_setN, q_setM, q_setV, q_setlO, q_rng1, q_rng2, q_settV, q_settT, q_settO, q_opdV, q_opdN, q_addO, q_appL, q_popL, q_sortT, q_sortM, q_sortR, q_sortO, q_sset, q_max, q_min, q_mulT, q_cutO, q_cutM, q_enT, q_enM, q_inIT, q_inTT, q_inIR, q_eqMM, q_extend, q_insert, q_extL, q_insL, q_allO, q_allR, q_anyO, q_anyR, q_sumO, q_sumR, gc_same, wipe]
  refine ok_lc_of w tD (fun _ => some (.bl true)) (w := ⟨wsD w, none⟩) (own := [2]) (sl := [.val (.tup [.tup names, .tup (ss.map Sen.d)]), .val (.tup (wsD w)), .unset]) rfl rfl hl (fun t ht => ?_) ?_
  · simp [wipe, fn_mkF, semSs, semS, sems, sem, mean, ok_seq, ok_thenN, ok_drop, ok_mRet, ok_mPar, ok_bind', ok_bind, ok_pure, ok_pure', ok_val, ok_tmp, ok_bl, ok_ite, ok_call, ok_lc, ok_lc2, ok_op2, ok_cmp, ok_truth, ok_subO, ok_cutO, ok_revO, ok_negO, ok_intOf, ok_bi, ok_meth, ok_metOk, ok_putO, ok_isi, ok_mVar, ok_toD, ok_stO, ok_rvO, ok_asB, ok_settle, ok_mRng, ok_walkO, ok_enumO, ok_ssetO, ok_put, ok_putT, ok_puts0, ok_putsC, ok_setNode, ok_mDs0, ok_mDsC, ok_mOs0, ok_mOsC, ok_mPart0, ok_mPart1, ok_mIfs0, ok_mIfsC, okM_ok, okM_stuck, okM_exc, okM_ite, Ty.below, atI_nat, atI_0, atI_1, atI_2, atI_3, atI_4, atI_5, atI_6, atI_7, atI_last, q_dII, q_dSS, q_dBB, q_dNN, q_dTT, q_dNI, q_dIN, q_dSI, q_dIS, q_dIT, q_dTI, q_dNT, q_dTN, q_dST, q_dTS, q_ds0, q_dsC, q_dsL, q_dsR, q_fI, q_fB, q_fN, q_fT, q_fS, q_f0, q_fC, q_mVar, q_toDv, q_toDt, q_toDo, q_stOv, q_stOt, q_stOo, q_rvOv, q_rvOt, q_rvOo, q_put, q_addI, q_addT, q_addS, q_subI, q_mulI, q_fdivI, q_modI, q_powI, q_shlI, q_shrI, q_addLtt, q_addLot, q_addLoo, q_neg, q_eq, q_ne, q_eqI, q_eqS, q_eqB, q_eqIB, q_eqBI, q_eqT, q_eqSI, q_eqIS, q_eqIT, q_eqTI, q_eqNI, q_eqIN, q_is, q_isnt, q_isNnon, q_isNint, q_isNbl, q_isNstr, q_isNtup, q_isNref, q_lt, q_gt, q_le, q_leT, q_ge, q_in, q_notin, q_trN, q_trB, q_trI, q_trT, q_trS, q_asB, q_subT, q_subR, q_subO, q_subM, q_nodeO, q_nodeR, q_nodeM, q_cutT, q_cutR, q_revT, q_intOf, q_lstR, q_lstM, q_lstO, q_lenT, q_lenS, q_lenR, q_lenO, q_lenM, q_abs, q_intI, q_intB, q_allM, q_anyM, q_sumM, q_tupT, q_tupM, q_tupO, q_tupR, q_listT, q_listM, q_listR, q_listO, q_isi, q_tyN, q_tyB, q_tyI, q_tyS, q_tyT, q_tyR, q_metOk, q_append, q_pop, q_popI, q_setO, q_setR, q_putO, q_walkT, q_walkM, q_walkR, q_walkO, q_setN, q_setM, q_setV, q_setlO, q_rng1, q_rng2, q_settV, q_settT, q_settO, q_opdV, q_opdN, q_addO, q_appL, q_popL, q_sortT, q_sortM, q_sortR, q_sortO, q_sset, q_max, q_min, q_mulT, q_cutO, q_cutM, q_enT, q_enM, q_inIT, q_inTT, q_inIR, q_eqMM, q_extend, q_insert, q_extL, q_insL, q_allO, q_allR, q_anyO, q_anyR, q_sumO, q_sumR, fn_ret (th names.length t h (hg t ht))]
  · have er : w.filterMap (fun _ => some (.bl true)) = w.map fun _ => D.bl true := filterMap_some (fun _ => D.bl true) w
    have eb : D.bools (w.map fun _ => D.bl true) = some (w.map fun _ => true) := bools_map (fun _ => true) w
    have ea : (w.map fun _ => true).all id = true := by simp
    rw [er]
    simp [wipe, unwipe, fn_mkF, semSs, semS, sems, sem, mean, ok_seq, ok_thenN, ok_drop, ok_mRet, ok_mPar, ok_bind', ok_bind, ok_pure, ok_pure', ok_val, ok_tmp, ok_bl, ok_ite, ok_call, ok_lc, ok_lc2, ok_op2, ok_cmp, ok_truth, ok_subO, ok_cutO, ok_revO, ok_negO, ok_intOf, ok_bi, ok_meth, ok_metOk, ok_putO, ok_isi, ok_mVar, ok_toD, ok_stO, ok_rvO, ok_asB, ok_settle, ok_mRng, ok_walkO, ok_enumO, ok_ssetO, ok_put, ok_putT, ok_puts0, ok_putsC, ok_setNode, ok_mDs0, ok_mDsC, ok_mOs0, ok_mOsC, ok_mPart0, ok_mPart1, ok_mIfs0, ok_mIfsC, okM_ok, okM_stuck, okM_exc, okM_ite, Ty.below, atI_nat, atI_0, atI_1, atI_2, atI_3, atI_4, atI_5, atI_6, atI_7, atI_last, q_dII, q_dSS, q_dBB, q_dNN, q_dTT, q_dNI, q_dIN, q_dSI, q_dIS, q_dIT, q_dTI, q_dNT, q_dTN, q_dST, q_dTS, q_ds0, q_dsC, q_dsL, q_dsR, q_fI, q_fB, q_fN, q_fT, q_fS, q_f0, q_fC, q_mVar, q_toDv, q_toDt, q_toDo, q_stOv, q_stOt, q_stOo, q_rvOv, q_rvOt, q_rvOo, q_put, q_addI, q_addT, q_addS, q_subI, q_mulI, q_fdivI, q_modI, q_powI, q_shlI, q_shrI, q_addLtt, q_addLot, q_addLoo, q_neg, q_eq, q_ne, q_eqI, q_eqS, q_eqB, q_eqIB, q_eqBI, q_eqT, q_eqSI, q_eqIS, q_eqIT, q_eqTI, q_eqNI, q_eqIN, q_is, q_isnt, q_isNnon, q_isNint, q_isNbl, q_isNstr, q_isNtup, q_isNref, q_lt, q_gt, q_le, q_leT, q_ge, q_in, q_notin, q_trN, q_trB, q_trI, q_trT, q_trS, q_asB, q_subT, q_subR, q_subO, q_subM, q_nodeO, q_nodeR, q_nodeM, q_cutT, q_cutR, q_revT, q_intOf, q_lstR, q_lstM, q_lstO, q_lenT, q_lenS, q_lenR, q_lenO, q_lenM, q_abs, q_intI, q_intB, q_allM, q_anyM, q_sumM, q_tupT, q_tupM, q_tupO, q_tupR, q_listT, q_listM, q_listR, q_listO, q_isi, q_tyN, q_tyB, q_tyI, q_tyS, q_tyT, q_tyR, q_metOk, q_append, q_pop, q_popI, q_setO, q_setR, q_putO, q_walkT, q_walkM, q_walkR, q_walkO, q_setN, q_setM, q_setV, q_setlO, q_rng1, q_rng2, q_settV, q_settT, q_settO, q_opdV, q_opdN, q_addO, q_appL, q_popL, q_sortT, q_sortM, q_sortR, q_sortO, q_sset, q_max, q_min, q_mulT, q_cutO, q_cutM, q_enT, q_enM, q_inIT, q_inTT, q_inIR, q_eqMM, q_extend, q_insert, q_extL, q_insL, q_allO, q_allR, q_anyO, q_anyR, q_sumO, q_sumR, gc_same, eb, ea, -List.map_const_fun, fn_ret ex', ee, -List.all_eq_true, -Bool.not_eq_true]
/-! ### thinner -/
def thinGo (p : List (List Int) → Bool) : List (List Int) → List (List Int) → List (List Int)
  | pre, [] => pre
  | pre, x :: post => if p (pre ++ post) = true then thinGo p pre post else thinGo p (pre ++ [x]) post
theorem cut_at (pre post : List (List Int)) (x : List Int) : cut (wsD (pre ++ x :: post)) none (some (pre.length : Int)) = wsD pre := by
  rw [cut_hi]
  unfold wsD
  rw [← List.map_take, List.take_left]
theorem cut_next (pre post : List (List Int)) (x : List Int) : cut (wsD (pre ++ x :: post)) (some ((pre.length : Int) + 1)) none = wsD post := by
  have : ((pre.length : Int) + 1) = ((pre.length + 1 : Nat) : Int) := by omega
  rw [this, cut_lo]
  unfold wsD
  rw [← List.map_drop]
  congr 1
  simp [List.drop_append]
theorem ws_app (a b : List (List Int)) : wsD (a ++ b) = wsD a ++ wsD b := by simp [wsD]
/-- a slot that holds a list -/
def Lst (x : Slot) (h : List Node) (ds : List D) : Prop := x = .own (.lst ds) ∨ ∃ l, x = .val (.ref l) ∧ h[l]? = some (.lst ds)
theorem Lst.app {x : Slot} {h : List Node} {ds : List D} (a : Lst x h ds) (y : List Node) : Lst x (h ++ y) ds := by
  rcases a with rfl | ⟨l, rfl, e⟩
  · exact .inl rfl
  · exact .inr ⟨l, rfl, (List.getElem?_append_left (List.getElem?_eq_some_iff.mp e).1).trans e⟩
theorem gc_ext (h x : List Node) (r : RV) : ∃ y, gc h.length r (h ++ x) = h ++ y := by
  unfold gc
  split
  · exact ⟨[], by simp⟩
  · exact ⟨x, rfl⟩
def ThinSp (f : FnD) : Prop := ∀ (names : List D) (ss : List Sen) (w : List (List Int)) (h : List Node), (∀ t ∈ w, GoodT names.length t) → w.length ≤ 1000 → ss.length ≤ lim →
  ∀ {Q : RV → List Node → Prop}, (∀ x, Q (.val (wD (thinGo (fun v => ss.all (holdsW v)) [] w))) (h ++ x)) → Fn f [bk names ss, wD w] h Q
def irThinned : ISs := (.cons (.set 2 (.bi .list (.cons (.var 1) .nil)))
  (.cons (.set 3 (.int 0))
  (.cons (.whl (.cmp .lt (.var 3) (.bi .len (.cons (.var 2) .nil))) (.cons (.set 4 (.bin .add (.cut (.var 2) .nil (.cons (.var 3) .nil)) (.cut (.var 2) (.cons (.bin .add (.var 3) (.int 1)) .nil) .nil)))
  (.cons (.ife (.call 88 (.cons (.var 0) (.cons (.bi .tuple (.cons (.var 4) .nil)) .nil))) (.cons (.set 2 (.var 4))
  .nil) (.cons (.aug 3 (.int 1))
  .nil))
  .nil)))
  (.cons (.ret (.bi .tuple (.cons (.var 2) .nil)))
  .nil))))
theorem thinned_sp {T : Tb} (wo : WorldSp (T.fn 88)) : ThinSp (mkF 5 (semSs T irThinned)) := by
  intro names ss w h hg hl hl2 Q q
  have hlim := lim_eq
  obtain ⟨b, hb⟩ : ∃ b, b = bk names ss := ⟨_, rfl⟩
  rw [← hb]
  simp [irThinned, wD, fn_mkF, semSs, semS, sems, sem, mean, ok_seq, ok_thenN, ok_drop, ok_mRet, ok_mPar, ok_bind', ok_bind, ok_pure, ok_pure', ok_val, ok_tmp, ok_bl, ok_ite, ok_call, ok_lc, ok_lc2, ok_op2, ok_cmp, ok_truth, ok_subO, ok_cutO, ok_revO, ok_negO, ok_intOf, ok_bi, ok_meth, ok_metOk, ok_putO, ok_isi, ok_mVar, ok_toD, ok_stO, ok_rvO, ok_asB, ok_settle, ok_mRng, ok_walkO, ok_enumO, ok_ssetO, ok_put, ok_putT, ok_puts0, ok_putsC, ok_setNode, ok_mDs0, ok_mDsC, ok_mOs0, ok_mOsC, ok_mPart0, ok_mPart1, ok_mIfs0, ok_mIfsC, okM_ok, okM_stuck, okM_exc, okM_ite, Ty.below, atI_nat, atI_0, atI_1, atI_2, atI_3, atI_4, atI_5, atI_6, atI_7, atI_last, q_dII, q_dSS, q_dBB, q_dNN, q_dTT, q_dNI, q_dIN, q_dSI, q_dIS, q_dIT, q_dTI, q_dNT, q_dTN, q_dST, q_dTS, q_ds0, q_dsC, q_dsL, q_dsR, q_fI, q_fB, q_fN, q_fT, q_fS, q_f0, q_fC, q_mVar, q_toDv, q_toDt, q_toDo, q_stOv, q_stOt, q_stOo, q_rvOv, q_rvOt, q_rvOo, q_put, q_addI, q_addT, q_addS, q_subI, q_mulI, q_fdivI, q_modI, q_powI, q_shlI, q_shrI, q_addLtt, q_addLot, q_addLoo, q_neg, q_eq, q_ne, q_eqI, q_eqS, q_eqB, q_eqIB, q_eqBI, q_eqT, q_eqSI, q_eqIS, q_eqIT, q_eqTI, q_eqNI, q_eqIN, q_is, q_isnt, q_isNnon, q_isNint, q_isNbl, q_isNstr, q_isNtup, q_isNref, q_lt, q_gt, q_le, q_leT, q_ge, q_in, q_notin, q_trN, q_trB, q_trI, q_trT, q_trS, q_asB, q_subT, q_subR, q_subO, q_subM, q_nodeO, q_nodeR, q_nodeM, q_cutT, q_cutR, q_revT, q_intOf, q_lstR, q_lstM, q_lstO, q_lenT, q_lenS, q_lenR, q_lenO, q_lenM, q_abs, q_intI, q_intB, q_allM, q_anyM, q_sumM, q_tupT, q_tupM, q_tupO, q_tupR, q_listT, q_listM, q_listR, q_listO, q_isi, q_tyN, q_tyB, q_tyI, q_tyS, q_tyT, q_tyR, q_metOk, q_append, q_pop, q_popI, q_setO, q_setR, q_putO, q_walkT, q_walkM, q_walkR, q_walkO, q_setN, q_setM, q_setV, q_setlO, q_rng1, q_rng2, q_settV, q_settT, q_settO, q_opdV, q_opdN, q_addO, q_appL, q_popL, q_sortT, q_sortM, q_sortR, q_sortO, q_sset, q_max, q_min, q_mulT, q_cutO, q_cutM, q_enT, q_enM, q_inIT, q_inTT, q_inIR, q_eqMM, q_extend, q_insert, q_extL, q_insL, q_allO, q_allR, q_anyO, q_anyR, q_sumO, q_sumR]
  obtain ⟨I, hI⟩ : ∃ I : Nat → St → Prop, ∀ n s, I n s ↔ ∃ (pre post : List (List Int)) (x2 x4 : Slot) (y : List Node), n = post.length ∧ (∀ t ∈ pre ++ post, GoodT names.length t) ∧ (pre ++ post).length ≤ 1000 ∧ thinGo (fun v => ss.all (holdsW v)) pre post = thinGo (fun v => ss.all (holdsW v)) [] w ∧ Lst x2 (h ++ y) (wsD (pre ++ post)) ∧
      s = ⟨[.val b, .val (.tup (wsD w)), x2, .val (.int pre.length), x4], h ++ y⟩ := ⟨_, fun _ _ => Iff.rfl⟩
  refine ok_while I ?_ w.length _ ((hI _ _).mpr ⟨[], w, _, .unset, [], rfl, by simpa using hg, by simpa using hl, rfl, .inl rfl, by simp⟩)
  intro n s hs
  obtain ⟨pre, post, x2, x4, y, rfl, hgd, hlen, ht, hx, rfl⟩ := (hI _ _).mp hs
  obtain ⟨y2, ey2⟩ := gc_ext h y (.val (.tup (wsD pre)))
  cases post with
  | nil =>
    rw [List.append_nil] at hx hgd hlen
    have hres : thinGo (fun v => ss.all (holdsW v)) [] w = pre := ht.symm
    rw [hres] at q
    have hws := ws_len pre
    rcases hx with rfl | ⟨l, rfl, e⟩
    · simp [fn_mkF, semSs, semS, sems, sem, mean, ok_seq, ok_thenN, ok_drop, ok_mRet, ok_mPar, ok_bind', ok_bind, ok_pure, ok_pure', ok_val, ok_tmp, ok_bl, ok_ite, ok_call, ok_lc, ok_lc2, ok_op2, ok_cmp, ok_truth, ok_subO, ok_cutO, ok_revO, ok_negO, ok_intOf, ok_bi, ok_meth, ok_metOk, ok_putO, ok_isi, ok_mVar, ok_toD, ok_stO, ok_rvO, ok_asB, ok_settle, ok_mRng, ok_walkO, ok_enumO, ok_ssetO, ok_put, ok_putT, ok_puts0, ok_putsC, ok_setNode, ok_mDs0, ok_mDsC, ok_mOs0, ok_mOsC, ok_mPart0, ok_mPart1, ok_mIfs0, ok_mIfsC, okM_ok, okM_stuck, okM_exc, okM_ite, Ty.below, atI_nat, atI_0, atI_1, atI_2, atI_3, atI_4, atI_5, atI_6, atI_7, atI_last, q_dII, q_dSS, q_dBB, q_dNN, q_dTT, q_dNI, q_dIN, q_dSI, q_dIS, q_dIT, q_dTI, q_dNT, q_dTN, q_dST, q_dTS, q_ds0, q_dsC, q_dsL, q_dsR, q_fI, q_fB, q_fN, q_fT, q_fS, q_f0, q_fC, q_mVar, q_toDv, q_toDt, q_toDo, q_stOv, q_stOt, q_stOo, q_rvOv, q_rvOt, q_rvOo, q_put, q_addI, q_addT, q_addS, q_subI, q_mulI, q_fdivI, q_modI, q_powI, q_shlI, q_shrI, q_addLtt, q_addLot, q_addLoo, q_neg, q_eq, q_ne, q_eqI, q_eqS, q_eqB, q_eqIB, q_eqBI, q_eqT, q_eqSI, q_eqIS, q_eqIT, q_eqTI, q_eqNI, q_eqIN, q_is, q_isnt, q_isNnon, q_isNint, q_isNbl, q_isNstr, q_isNtup, q_isNref, q_lt, q_gt, q_le, q_leT, q_ge, q_in, q_notin, q_trN, q_trB, q_trI, q_trT, q_trS, q_asB, q_subT, q_subR, q_subO, q_subM, q_nodeO, q_nodeR, q_nodeM, q_cutT, q_cutR, q_revT, q_intOf, q_lstR, q_lstM, q_lstO, q_lenT, q_lenS, q_lenR, q_lenO, q_lenM, q_abs, q_intI, q_intB, q_allM, q_anyM, q_sumM, q_tupT, q_tupM, q_tupO, q_tupR, q_listT, q_listM, q_listR, q_listO, q_isi, q_tyN, q_tyB, q_tyI, q_tyS, q_tyT, q_tyR, q_metOk, q_append, q_pop, q_popI, q_setO, q_setR, q_putO, q_walkT, q_walkM, q_walkR, q_walkO, q_setN, q_setM, q_setV, q_setlO, q_rng1, q_rng2, q_settV, q_settT, q_settO, q_opdV, q_opdN, q_addO, q_appL, q_popL, q_sortT, q_sortM, q_sortR, q_sortO, q_sset, q_max, q_min, q_mulT, q_cutO, q_cutM, q_enT, q_enM, q_inIT, q_inTT, q_inIR, q_eqMM, q_extend, q_insert, q_extL, q_insL, q_allO, q_allR, q_anyO, q_anyR, q_sumO, q_sumR, hws, ey2]; exact q y2
    · simp [fn_mkF, semSs, semS, sems, sem, mean, ok_seq, ok_thenN, ok_drop, ok_mRet, ok_mPar, ok_bind', ok_bind, ok_pure, ok_pure', ok_val, ok_tmp, ok_bl, ok_ite, ok_call, ok_lc, ok_lc2, ok_op2, ok_cmp, ok_truth, ok_subO, ok_cutO, ok_revO, ok_negO, ok_intOf, ok_bi, ok_meth, ok_metOk, ok_putO, ok_isi, ok_mVar, ok_toD, ok_stO, ok_rvO, ok_asB, ok_settle, ok_mRng, ok_walkO, ok_enumO, ok_ssetO, ok_put, ok_putT, ok_puts0, ok_putsC, ok_setNode, ok_mDs0, ok_mDsC, ok_mOs0, ok_mOsC, ok_mPart0, ok_mPart1, ok_mIfs0, ok_mIfsC, okM_ok, okM_stuck, okM_exc, okM_ite, Ty.below, atI_nat, atI_0, atI_1, atI_2, atI_3, atI_4, atI_5, atI_6, atI_7, atI_last, q_dII, q_dSS, q_dBB, q_dNN, q_dTT, q_dNI, q_dIN, q_dSI, q_dIS, q_dIT, q_dTI, q_dNT, q_dTN, q_dST, q_dTS, q_ds0, q_dsC, q_dsL, q_dsR, q_fI, q_fB, q_fN, q_fT, q_fS, q_f0, q_fC, q_mVar, q_toDv, q_toDt, q_toDo, q_stOv, q_stOt, q_stOo, q_rvOv, q_rvOt, q_rvOo, q_put, q_addI, q_addT, q_addS, q_subI, q_mulI, q_fdivI, q_modI, q_powI, q_shlI, q_shrI, q_addLtt, q_addLot, q_addLoo, q_neg, q_eq, q_ne, q_eqI, q_eqS, q_eqB, q_eqIB, q_eqBI, q_eqT, q_eqSI, q_eqIS, q_eqIT, q_eqTI, q_eqNI, q_eqIN, q_is, q_isnt, q_isNnon, q_isNint, q_isNbl, q_isNstr, q_isNtup, q_isNref, q_lt, q_gt, q_le, q_leT, q_ge, q_in, q_notin, q_trN, q_trB, q_trI, q_trT, q_trS, q_asB, q_subT, q_subR, q_subO, q_subM, q_nodeO, q_nodeR, q_nodeM, q_cutT, q_cutR, q_revT, q_intOf, q_lstR, q_lstM, q_lstO, q_lenT, q_lenS, q_lenR, q_lenO, q_lenM, q_abs, q_intI, q_intB, q_allM, q_anyM, q_sumM, q_tupT, q_tupM, q_tupO, q_tupR, q_listT, q_listM, q_listR, q_listO, q_isi, q_tyN, q_tyB, q_tyI, q_tyS, q_tyT, q_tyR, q_metOk, q_append, q_pop, q_popI, q_setO, q_setR, q_putO, q_walkT, q_walkM, q_walkR, q_walkO, q_setN, q_setM, q_setV, q_setlO, q_rng1, q_rng2, q_settV, q_settT, q_settO, q_opdV, q_opdN, q_addO, q_appL, q_popL, q_sortT, q_sortM, q_sortR, q_sortO, q_sset, q_max, q_min, q_mulT, q_cutO, q_cutM, q_enT, q_enM, q_inIT, q_inTT, q_inIR, q_eqMM, q_extend, q_insert, q_extL, q_insL, q_allO, q_allR, q_anyO, q_anyR, q_sumO, q_sumR, hws, ey2, e]; exact q y2
  | cons x post =>
    have hws := ws_len (pre ++ x :: post)
    have hlt : (pre.length : Int) < (pre.length : Int) + ((post.length : Int) + 1) := by omega
    have h1 := cut_at pre post x
    have h2 := cut_next pre post x
    have hgd2 : ∀ t ∈ pre ++ post, GoodT names.length t := fun t ht => hgd t (by
      rcases List.mem_append.mp ht with ht | ht
      · exact List.mem_append_left _ ht
      · exact List.mem_append_right _ (List.mem_cons_of_mem _ ht))
    have hl3 : (pre ++ post).length ≤ 1000 := by simp at hlen ⊢; omega
    have hl4 : (wsD pre).length + (wsD post).length ≤ lim := by rw [ws_len, ws_len]; simp at hl3; omega
    have hw := wo names ss (pre ++ post) (h ++ y) hgd2 (by omega) hl2
    rw [← hb, wD, ws_app] at hw
    have key : ∀ s2, s2 = (⟨[.val b, .val (.tup (wsD w)), x2, .val (.int pre.length), .own (.lst (wsD pre ++ wsD post))], h ++ y⟩ : St) → (if ss.all (holdsW (pre ++ post)) = true then
        ∃ m, m < (x :: post).length ∧ I m ⟨[.val b, .val (.tup (wsD w)), .val (.ref (h.length + y.length)), .val (.int pre.length), .val (.ref (h.length + y.length))], h ++ (y ++ [.lst (wsD pre ++ wsD post)])⟩
        else ∃ m, m < (x :: post).length ∧ I m ⟨[.val b, .val (.tup (wsD w)), x2, .val (.int (pre.length + 1)), .own (.lst (wsD pre ++ wsD post))], h ++ y⟩) := fun s2 _ => by
      split
      · rename_i hp
        refine ⟨post.length, by simp, (hI _ _).mpr ⟨pre, post, _, _, y ++ [.lst (wsD pre ++ wsD post)], rfl, hgd2, hl3, ?_, .inr ⟨_, rfl, ?_⟩, rfl⟩⟩
        · rw [← ht]
          simp only [thinGo]
          rw [if_pos hp]
        · rw [ws_app, ← List.append_assoc, ← List.length_append]; simp
      · rename_i hp
        refine ⟨post.length, by simp, (hI _ _).mpr ⟨pre ++ [x], post, x2, .own (.lst (wsD pre ++ wsD post)), y, rfl, by simpa using hgd, by simpa using hlen, ?_, by simpa using hx, by simp⟩⟩
        rw [← ht]
        conv => rhs; simp only [thinGo]
        rw [if_neg hp]
    have key := key _ rfl
    rcases hx with rfl | ⟨l, rfl, e⟩
    · by_cases hp : ss.all (holdsW (pre ++ post)) = true
      · rw [if_pos hp] at key
        simp [fn_mkF, semSs, semS, sems, sem, mean, ok_seq, ok_thenN, ok_drop, ok_mRet, ok_mPar, ok_bind', ok_bind, ok_pure, ok_pure', ok_val, ok_tmp, ok_bl, ok_ite, ok_call, ok_lc, ok_lc2, ok_op2, ok_cmp, ok_truth, ok_subO, ok_cutO, ok_revO, ok_negO, ok_intOf, ok_bi, ok_meth, ok_metOk, ok_putO, ok_isi, ok_mVar, ok_toD, ok_stO, ok_rvO, ok_asB, ok_settle, ok_mRng, ok_walkO, ok_enumO, ok_ssetO, ok_put, ok_putT, ok_puts0, ok_putsC, ok_setNode, ok_mDs0, ok_mDsC, ok_mOs0, ok_mOsC, ok_mPart0, ok_mPart1, ok_mIfs0, ok_mIfsC, okM_ok, okM_stuck, okM_exc, okM_ite, Ty.below, atI_nat, atI_0, atI_1, atI_2, atI_3, atI_4, atI_5, atI_6, atI_7, atI_last, q_dII, q_dSS, q_dBB, q_dNN, q_dTT, q_dNI, q_dIN, q_dSI, q_dIS, q_dIT, q_dTI, q_dNT, q_dTN, q_dST, q_dTS, q_ds0, q_dsC, q_dsL, q_dsR, q_fI, q_fB, q_fN, q_fT, q_fS, q_f0, q_fC, q_mVar, q_toDv, q_toDt, q_toDo, q_stOv, q_stOt, q_stOo, q_rvOv, q_rvOt, q_rvOo, q_put, q_addI, q_addT, q_addS, q_subI, q_mulI, q_fdivI, q_modI, q_powI, q_shlI, q_shrI, q_addLtt, q_addLot, q_addLoo, q_neg, q_eq, q_ne, q_eqI, q_eqS, q_eqB, q_eqIB, q_eqBI, q_eqT, q_eqSI, q_eqIS, q_eqIT, q_eqTI, q_eqNI, q_eqIN, q_is, q_isnt, q_isNnon, q_isNint, q_isNbl, q_isNstr, q_isNtup, q_isNref, q_lt, q_gt, q_le, q_leT, q_ge, q_in, q_notin, q_trN, q_trB, q_trI, q_trT, q_trS, q_asB, q_subT, q_subR, q_subO, q_subM, q_nodeO, q_nodeR, q_nodeM, q_cutT, q_cutR, q_revT, q_intOf, q_lstR, q_lstM, q_lstO, q_lenT, q_lenS, q_lenR, q_lenO, q_lenM, q_abs, q_intI, q_intB, q_allM, q_anyM, q_sumM, q_tupT, q_tupM, q_tupO, q_tupR, q_listT, q_listM, q_listR, q_listO, q_isi, q_tyN, q_tyB, q_tyI, q_tyS, q_tyT, q_tyR, q_metOk, q_append, q_pop, q_popI, q_setO, q_setR, q_putO, q_walkT, q_walkM, q_walkR, q_walkO, q_setN, q_setM, q_setV, q_setlO, q_rng1, q_rng2, q_settV, q_settT, q_settO, q_opdV, q_opdN, q_addO, q_appL, q_popL, q_sortT, q_sortM, q_sortR, q_sortO, q_sset, q_max, q_min, q_mulT, q_cutO, q_cutM, q_enT, q_enM, q_inIT, q_inTT, q_inIR, q_eqMM, q_extend, q_insert, q_extL, q_insL, q_allO, q_allR, q_anyO, q_anyR, q_sumO, q_sumR, hws, hlt, h1, h2, hl4, fn_ret hw, hp, -List.all_eq_true]
        simpa using key
      · rw [if_neg hp] at key
        have hp' : ss.all (holdsW (pre ++ post)) = false := by simpa using hp
        simp [fn_mkF, semSs, semS, sems, sem, mean, ok_seq, ok_thenN, ok_drop, ok_mRet, ok_mPar, ok_bind', ok_bind, ok_pure, ok_pure', ok_val, ok_tmp, ok_bl, ok_ite, ok_call, ok_lc, ok_lc2, ok_op2, ok_cmp, ok_truth, ok_subO, ok_cutO, ok_revO, ok_negO, ok_intOf, ok_bi, ok_meth, ok_metOk, ok_putO, ok_isi, ok_mVar, ok_toD, ok_stO, ok_rvO, ok_asB, ok_settle, ok_mRng, ok_walkO, ok_enumO, ok_ssetO, ok_put, ok_putT, ok_puts0, ok_putsC, ok_setNode, ok_mDs0, ok_mDsC, ok_mOs0, ok_mOsC, ok_mPart0, ok_mPart1, ok_mIfs0, ok_mIfsC, okM_ok, okM_stuck, okM_exc, okM_ite, Ty.below, atI_nat, atI_0, atI_1, atI_2, atI_3, atI_4, atI_5, atI_6, atI_7, atI_last, q_dII, q_dSS, q_dBB, q_dNN, q_dTT, q_dNI, q_dIN, q_dSI, q_dIS, q_dIT, q_dTI, q_dNT, q_dTN, q_dST, q_dTS, q_ds0, q_dsC, q_dsL, q_dsR, q_fI, q_fB, q_fN, q_fT, q_fS, q_f0, q_fC, q_mVar, q_toDv, q_toDt, q_toDo, q_stOv, q_stOt, q_stOo, q_rvOv, q_rvOt, q_rvOo, q_put, q_addI, q_addT, q_addS, q_subI, q_mulI, q_fdivI, q_modI, q_powI, q_shlI, q_shrI, q_addLtt, q_addLot, q_addLoo, q_neg, q_eq, q_ne, q_eqI, q_eqS, q_eqB, q_eqIB, q_eqBI, q_eqT, q_eqSI, q_eqIS, q_eqIT, q_eqTI, q_eqNI, q_eqIN, q_is, q_isnt, q_isNnon, q_isNint, q_isNbl, q_isNstr, q_isNtup, q_isNref, q_lt, q_gt, q_le, q_leT, q_ge, q_in, q_notin, q_trN, q_trB, q_trI, q_trT, q_trS, q_asB, q_subT, q_subR, q_subO, q_subM, q_nodeO, q_nodeR, q_nodeM, q_cutT, q_cutR, q_revT, q_intOf, q_lstR, q_lstM, q_lstO, q_lenT, q_lenS, q_lenR, q_lenO, q_lenM, q_abs, q_intI, q_intB, q_allM, q_anyM, q_sumM, q_tupT, q_tupM, q_tupO, q_tupR, q_listT, q_listM, q_listR, q_listO, q_isi, q_tyN, q_tyB, q_tyI, q_tyS, q_tyT, q_tyR, q_metOk, q_append, q_pop, q_popI, q_setO, q_setR, q_putO, q_walkT, q_walkM, q_walkR, q_walkO, q_setN, q_setM, q_setV, q_setlO, q_rng1, q_rng2, q_settV, q_settT, q_settO, q_opdV, q_opdN, q_addO, q_appL, q_popL, q_sortT, q_sortM, q_sortR, q_sortO, q_sset, q_max, q_min, q_mulT, q_cutO, q_cutM, q_enT, q_enM, q_inIT, q_inTT, q_inIR, q_eqMM, q_extend, q_insert, q_extL, q_insL, q_allO, q_allR, q_anyO, q_anyR, q_sumO, q_sumR, hws, hlt, h1, h2, hl4, fn_ret hw, hp', -List.all_eq_true, -List.all_eq_false]
        simpa using key
    · by_cases hp : ss.all (holdsW (pre ++ post)) = true
      · rw [if_pos hp] at key
        simp [fn_mkF, semSs, semS, sems, sem, mean, ok_seq, ok_thenN, ok_drop, ok_mRet, ok_mPar, ok_bind', ok_bind, ok_pure, ok_pure', ok_val, ok_tmp, ok_bl, ok_ite, ok_call, ok_lc, ok_lc2, ok_op2, ok_cmp, ok_truth, ok_subO, ok_cutO, ok_revO, ok_negO, ok_intOf, ok_bi, ok_meth, ok_metOk, ok_putO, ok_isi, ok_mVar, ok_toD, ok_stO, ok_rvO, ok_asB, ok_settle, ok_mRng, ok_walkO, ok_enumO, ok_ssetO, ok_put, ok_putT, ok_puts0, ok_putsC, ok_setNode, ok_mDs0, ok_mDsC, ok_mOs0, ok_mOsC, ok_mPart0, ok_mPart1, ok_mIfs0, ok_mIfsC, okM_ok, okM_stuck, okM_exc, okM_ite, Ty.below, atI_nat, atI_0, atI_1, atI_2, atI_3, atI_4, atI_5, atI_6, atI_7, atI_last, q_dII, q_dSS, q_dBB, q_dNN, q_dTT, q_dNI, q_dIN, q_dSI, q_dIS, q_dIT, q_dTI, q_dNT, q_dTN, q_dST, q_dTS, q_ds0, q_dsC, q_dsL, q_dsR, q_fI, q_fB, q_fN, q_fT, q_fS, q_f0, q_fC, q_mVar, q_toDv, q_toDt, q_toDo, q_stOv, q_stOt, q_stOo, q_rvOv, q_rvOt, q_rvOo, q_put, q_addI, q_addT, q_addS, q_subI, q_mulI, q_fdivI, q_modI, q_powI, q_shlI, q_shrI, q_addLtt, q_addLot, q_addLoo, q_neg, q_eq, q_ne, q_eqI, q_eqS, q_eqB, q_eqIB, q_eqBI, q_eqT, q_eqSI, q_eqIS, q_eqIT, q_eqTI, q_eqNI, q_eqIN, q_is, q_isnt, q_isNnon, q_isNint, q_isNbl, q_isNstr, q_isNtup, q_isNref, q_lt, q_gt, q_le, q_leT, q_ge, q_in, q_notin, q_trN, q_trB, q_trI, q_trT, q_trS, q_asB, q_subT, q_subR, q_subO, q_subM, q_nodeO, q_nodeR, q_nodeM, q_cutT, q_cutR, q_revT, q_intOf, q_lstR, q_lstM, q_lstO, q_lenT, q_lenS, q_lenR, q_lenO, q_lenM, q_abs, q_intI, q_intB, q_allM, q_anyM, q_sumM, q_tupT, q_tupM, q_tupO, q_tupR, q_listT, q_listM, q_listR, q_listO, q_isi, q_tyN, q_tyB, q_tyI, q_tyS, q_tyT, q_tyR, q_metOk, q_append, q_pop, q_popI, q_setO, q_setR, q_putO, q_walkT, q_walkM, q_walkR, q_walkO, q_setN, q_setM, q_setV, q_setlO, q_rng1, q_rng2, q_settV, q_settT, q_settO, q_opdV, q_opdN, q_addO, q_appL, q_popL, q_sortT, q_sortM, q_sortR, q_sortO, q_sset, q_max, q_min, q_mulT, q_cutO, q_cutM, q_enT, q_enM, q_inIT, q_inTT, q_inIR, q_eqMM, q_extend, q_insert, q_extL, q_insL, q_allO, q_allR, q_anyO, q_anyR, q_sumO, q_sumR, hws, hlt, h1, h2, hl4, fn_ret hw, hp, -List.all_eq_true, e]
        simpa using key
      · rw [if_neg hp] at key
        have hp' : ss.all (holdsW (pre ++ post)) = false := by simpa using hp
        simp [fn_mkF, semSs, semS, sems, sem, mean, ok_seq, ok_thenN, ok_drop, ok_mRet, ok_mPar, ok_bind', ok_bind, ok_pure, ok_pure', ok_val, ok_tmp, ok_bl, ok_ite, ok_call, ok_lc, ok_lc2, ok_op2, ok_cmp, ok_truth, ok_subO, ok_cutO, ok_revO, ok_negO, ok_intOf, ok_bi, ok_meth, ok_metOk, ok_putO, ok_isi, ok_mVar, ok_toD, ok_stO, ok_rvO, ok_asB, ok_settle, ok_mRng, ok_walkO, ok_enumO, ok_ssetO, ok_put, ok_putT, ok_puts0, ok_putsC, ok_setNode, ok_mDs0, ok_mDsC, ok_mOs0, ok_mOsC, ok_mPart0, ok_mPart1, ok_mIfs0, ok_mIfsC, okM_ok, okM_stuck, okM_exc, okM_ite, Ty.below, atI_nat, atI_0, atI_1, atI_2, atI_3, atI_4, atI_5, atI_6, atI_7, atI_last, q_dII, q_dSS, q_dBB, q_dNN, q_dTT, q_dNI, q_dIN, q_dSI, q_dIS, q_dIT, q_dTI, q_dNT, q_dTN, q_dST, q_dTS, q_ds0, q_dsC, q_dsL, q_dsR, q_fI, q_fB, q_fN, q_fT, q_fS, q_f0, q_fC, q_mVar, q_toDv, q_toDt, q_toDo, q_stOv, q_stOt, q_stOo, q_rvOv, q_rvOt, q_rvOo, q_put, q_addI, q_addT, q_addS, q_subI, q_mulI, q_fdivI, q_modI, q_powI, q_shlI, q_shrI, q_addLtt, q_addLot, q_addLoo, q_neg, q_eq, q_ne, q_eqI, q_eqS, q_eqB, q_eqIB, q_eqBI, q_eqT, q_eqSI, q_eqIS, q_eqIT, q_eqTI, q_eqNI, q_eqIN, q_is, q_isnt, q_isNnon, q_isNint, q_isNbl, q_isNstr, q_isNtup, q_isNref, q_lt, q_gt, q_le, q_leT, q_ge, q_in, q_notin, q_trN, q_trB, q_trI, q_trT, q_trS, q_asB, q_subT, q_subR, q_subO, q_subM, q_nodeO, q_nodeR, q_nodeM, q_cutT, q_cutR, q_revT, q_intOf, q_lstR, q_lstM, q_lstO, q_lenT, q_lenS, q_lenR, q_lenO, q_lenM, q_abs, q_intI, q_intB, q_allM, q_anyM, q_sumM, q_tupT, q_tupM, q_tupO, q_tupR, q_listT, q_listM, q_listR, q_listO, q_isi, q_tyN, q_tyB, q_tyI, q_tyS, q_tyT, q_tyR, q_metOk, q_append, q_pop, q_popI, q_setO, q_setR, q_putO, q_walkT, q_walkM, q_walkR, q_walkO, q_setN, q_setM, q_setV, q_setlO, q_rng1, q_rng2, q_settV, q_settT, q_settO, q_opdV, q_opdN, q_addO, q_appL, q_popL, q_sortT, q_sortM, q_sortR, q_sortO, q_sset, q_max, q_min, q_mulT, q_cutO, q_cutM, q_enT, q_enM, q_inIT, q_inTT, q_inIR, q_eqMM, q_extend, q_insert, q_extL, q_insL, q_allO, q_allR, q_anyO, q_anyR, q_sumO, q_sumR, hws, hlt, h1, h2, hl4, fn_ret hw, hp', -List.all_eq_true, -List.all_eq_false, e]
        simpa using key
end G

/-! G6: without_lot, sorted_world; the law's own: holds, is_good, thinned, mixed. -/
set_option linter.all false
set_option maxRecDepth 100000
set_option Elab.async false
set_option autoImplicit false
set_option maxHeartbeats 0
namespace G
open PySem Y
def less (i : Int) (t : List Int) : List Int := t.filter fun j => !decide (j = i)
theorem less_eq (i : Int) (t : List Int) : t.filterMap (fun j => if j = i then none else some (D.int j)) = (less i t).map .int := by
  unfold less
  rw [← filterMap_if]
  refine congrArg (fun g => List.filterMap g t) (funext fun j => ?_)
  by_cases h : j = i
  · simp [h]
  · simp [h]
def WithoutSp (f : FnD) : Prop := ∀ (w : List (List Int)) (i : Int) (h : List Node), w.length ≤ lim → (∀ t ∈ w, t.length ≤ lim) → f [wD w, .int i] h = .ret (.val (wD (w.map (less i)))) h
def irWithout : ISs := (.cons (.ret (.bi .tuple (.cons (.lc [2] (.bi .tuple (.cons (.lc [3] (.var 3) (.name 3) (.var 2) (.cons (.cmp .ne (.var 3) (.var 1)) .nil)) .nil)) (.name 2) (.var 0) .nil) .nil)))
  .nil)
theorem without_sp (T : Tb) : WithoutSp (mkF 4 (semSs T irWithout)) := by
  intro w i h hl hl2
  apply fn_eq
  simp [irWithout, wD, fn_mkF, semSs, semS, sems, sem, mean, ok_seq, ok_thenN, ok_drop, ok_mRet, ok_mPar, ok_bind', ok_bind, ok_pure, ok_pure', ok_val, ok_tmp, ok_bl, ok_ite, ok_call, ok_lc, ok_lc2, ok_op2, ok_cmp, ok_truth, ok_subO, ok_cutO, ok_revO, ok_negO, ok_intOf, ok_bi, ok_meth, ok_metOk, ok_putO, ok_isi, ok_mVar, ok_toD, ok_stO, ok_rvO, ok_asB, ok_settle, ok_mRng, ok_walkO, ok_enumO, ok_ssetO, ok_put, ok_putT, ok_puts0, ok_putsC, ok_setNode, ok_mDs0, ok_mDsC, ok_mOs0, ok_mOsC, ok_mPart0, ok_mPart1, ok_mIfs0, ok_mIfsC, okM_ok, okM_stuck, okM_exc, okM_ite, Ty.below, atI_nat, atI_0, atI_1, atI_2, atI_3, atI_4, atI_5, atI_6, atI_7, atI_last, q_dII, q_dSS, q_dBB, q_dNN, q_dTT, q_dNI, q_dIN, q_dSI, q_dIS, q_dIT, q_dTI, q_dNT, q_dTN, q_dST, q_dTS, q_ds0, q_dsC, q_dsL, q_dsR, q_fI, q_fB, q_fN, q_fT, q_fS, q_f0, q_fC, q_mVar, q_toDv, q_toDt, q_toDo, q_stOv, q_stOt, q_stOo, q_rvOv, q_rvOt, q_rvOo, q_put, q_addI, q_addT, q_addS, q_subI, q_mulI, q_fdivI, q_modI, q_powI, q_shlI, q_shrI, q_addLtt, q_addLot, q_addLoo, q_neg, q_eq, q_ne, q_eqI, q_eqS, q_eqB, q_eqIB, q_eqBI, q_eqT, q_eqSI, q_eqIS, q_eqIT, q_eqTI, q_eqNI, q_eqIN, q_is, q_isnt, q_isNnon, q_isNint, q_isNbl, q_isNstr, q_isNtup, q_isNref, q_lt, q_gt, q_le, q_leT, q_ge, q_in, q_notin, q_trN, q_trB, q_trI, q_trT, q_trS, q_asB, q_subT, q_subR, q_subO, q_subM, q_nodeO, q_nodeR, q_nodeM, q_cutT, q_cutR, q_revT, q_intOf, q_lstR, q_lstM, q_lstO, q_lenT, q_lenS, q_lenR, q_lenO, q_lenM, q_abs, q_intI, q_intB, q_allM, q_anyM, q_sumM, q_tupT, q_tupM, q_tupO, q_tupR, q_listT, q_listM, q_listR, q_listO, q_isi, q_tyN, q_tyB, q_tyI, q_tyS, q_tyT, q_tyR, q_metOk, q_append, q_pop, q_popI, q_setO, q_setR, q_putO, q_walkT, q_walkM, q_walkR, q_walkO, q_setN, q_setM, q_setV, q_setlO, q_rng1, q_rng2, q_settV, q_settT, q_settO, q_opdV, q_opdN, q_addO, q_appL, q_popL, q_sortT, q_sortM, q_sortR, q_sortO, q_sset, q_max, q_min, q_mulT, q_cutO, q_cutM, q_enT, q_enM, q_inIT, q_inTT, q_inIR, q_eqMM, q_extend, q_insert, q_extL, q_insL, q_allO, q_allR, q_anyO, q_anyR, q_sumO, q_sumR, gc_same, wipe]
  refine ok_lc_of w tD (fun t => some (tD (less i t))) (w := ⟨wsD w, none⟩) (own := [2]) (sl := [.val (.tup (wsD w)), .val (.int i), .unset, .unset]) rfl rfl hl (fun t ht => ?_) ?_
  · simp [wipe, tD, fn_mkF, semSs, semS, sems, sem, mean, ok_seq, ok_thenN, ok_drop, ok_mRet, ok_mPar, ok_bind', ok_bind, ok_pure, ok_pure', ok_val, ok_tmp, ok_bl, ok_ite, ok_call, ok_lc, ok_lc2, ok_op2, ok_cmp, ok_truth, ok_subO, ok_cutO, ok_revO, ok_negO, ok_intOf, ok_bi, ok_meth, ok_metOk, ok_putO, ok_isi, ok_mVar, ok_toD, ok_stO, ok_rvO, ok_asB, ok_settle, ok_mRng, ok_walkO, ok_enumO, ok_ssetO, ok_put, ok_putT, ok_puts0, ok_putsC, ok_setNode, ok_mDs0, ok_mDsC, ok_mOs0, ok_mOsC, ok_mPart0, ok_mPart1, ok_mIfs0, ok_mIfsC, okM_ok, okM_stuck, okM_exc, okM_ite, Ty.below, atI_nat, atI_0, atI_1, atI_2, atI_3, atI_4, atI_5, atI_6, atI_7, atI_last, q_dII, q_dSS, q_dBB, q_dNN, q_dTT, q_dNI, q_dIN, q_dSI, q_dIS, q_dIT, q_dTI, q_dNT, q_dTN, q_dST, q_dTS, q_ds0, q_dsC, q_dsL, q_dsR, q_fI, q_fB, q_fN, q_fT, q_fS, q_f0, q_fC, q_mVar, q_toDv, q_toDt, q_toDo, q_stOv, q_stOt, q_stOo, q_rvOv, q_rvOt, q_rvOo, q_put, q_addI, q_addT, q_addS, q_subI, q_mulI, q_fdivI, q_modI, q_powI, q_shlI, q_shrI, q_addLtt, q_addLot, q_addLoo, q_neg, q_eq, q_ne, q_eqI, q_eqS, q_eqB, q_eqIB, q_eqBI, q_eqT, q_eqSI, q_eqIS, q_eqIT, q_eqTI, q_eqNI, q_eqIN, q_is, q_isnt, q_isNnon, q_isNint, q_isNbl, q_isNstr, q_isNtup, q_isNref, q_lt, q_gt, q_le, q_leT, q_ge, q_in, q_notin, q_trN, q_trB, q_trI, q_trT, q_trS, q_asB, q_subT, q_subR, q_subO, q_subM, q_nodeO, q_nodeR, q_nodeM, q_cutT, q_cutR, q_revT, q_intOf, q_lstR, q_lstM, q_lstO, q_lenT, q_lenS, q_lenR, q_lenO, q_lenM, q_abs, q_intI, q_intB, q_allM, q_anyM, q_sumM, q_tupT, q_tupM, q_tupO, q_tupR, q_listT, q_listM, q_listR, q_listO, q_isi, q_tyN, q_tyB, q_tyI, q_tyS, q_tyT, q_tyR, q_metOk, q_append, q_pop, q_popI, q_setO, q_setR, q_putO, q_walkT, q_walkM, q_walkR, q_walkO, q_setN, q_setM, q_setV, q_setlO, q_rng1, q_rng2, q_settV, q_settT, q_settO, q_opdV, q_opdN, q_addO, q_appL, q_popL, q_sortT, q_sortM, q_sortR, q_sortO, q_sset, q_max, q_min, q_mulT, q_cutO, q_cutM, q_enT, q_enM, q_inIT, q_inTT, q_inIR, q_eqMM, q_extend, q_insert, q_extL, q_insL, q_allO, q_allR, q_anyO, q_anyR, q_sumO, q_sumR]
    refine ok_lc_of t D.int (fun j => if j = i then none else some (.int j)) (w := ⟨t.map .int, none⟩) (own := [3]) (sl := [.val (.tup (wsD w)), .val (.int i), .val (.tup (t.map .int)), .unset]) rfl rfl (hl2 t ht) (fun j hj => ?_) ?_
    · by_cases hji : j = i
      · simp [wipe, fn_mkF, semSs, semS, sems, sem, mean, ok_seq, ok_thenN, ok_drop, ok_mRet, ok_mPar, ok_bind', ok_bind, ok_pure, ok_pure', ok_val, ok_tmp, ok_bl, ok_ite, ok_call, ok_lc, ok_lc2, ok_op2, ok_cmp, ok_truth, ok_subO, ok_cutO, ok_revO, ok_negO, ok_intOf, ok_bi, ok_meth, ok_metOk, ok_putO, ok_isi, ok_mVar, ok_toD, ok_stO, ok_rvO, ok_asB, ok_settle, ok_mRng, ok_walkO, ok_enumO, ok_ssetO, ok_put, ok_putT, ok_puts0, ok_putsC, ok_setNode, ok_mDs0, ok_mDsC, ok_mOs0, ok_mOsC, ok_mPart0, ok_mPart1, ok_mIfs0, ok_mIfsC, okM_ok, okM_stuck, okM_exc, okM_ite, Ty.below, atI_nat, atI_0, atI_1, atI_2, atI_3, atI_4, atI_5, atI_6, atI_7, atI_last, q_dII, q_dSS, q_dBB, q_dNN, q_dTT, q_dNI, q_dIN, q_dSI, q_dIS, q_dIT, q_dTI, q_dNT, q_dTN, q_dST, q_dTS, q_ds0, q_dsC, q_dsL, q_dsR, q_fI, q_fB, q_fN, q_fT, q_fS, q_f0, q_fC, q_mVar, q_toDv, q_toDt, q_toDo, q_stOv, q_stOt, q_stOo, q_rvOv, q_rvOt, q_rvOo, q_put, q_addI, q_addT, q_addS, q_subI, q_mulI, q_fdivI, q_modI, q_powI, q_shlI, q_shrI, q_addLtt, q_addLot, q_addLoo, q_neg, q_eq, q_ne, q_eqI, q_eqS, q_eqB, q_eqIB, q_eqBI, q_eqT, q_eqSI, q_eqIS, q_eqIT, q_eqTI, q_eqNI, q_eqIN, q_is, q_isnt, q_isNnon, q_isNint, q_isNbl, q_isNstr, q_isNtup, q_isNref, q_lt, q_gt, q_le, q_leT, q_ge, q_in, q_notin, q_trN, q_trB, q_trI, q_trT, q_trS, q_asB, q_subT, q_subR, q_subO, q_subM, q_nodeO, q_nodeR, q_nodeM, q_cutT, q_cutR, q_revT, q_intOf, q_lstR, q_lstM, q_lstO, q_lenT, q_lenS, q_lenR, q_lenO, q_lenM, q_abs, q_intI, q_intB, q_allM, q_anyM, q_sumM, q_tupT, q_tupM, q_tupO, q_tupR, q_listT, q_listM, q_listR, q_listO, q_isi, q_tyN, q_tyB, q_tyI, q_tyS, q_tyT, q_tyR, q_metOk, q_append, q_pop, q_popI, q_setO, q_setR, q_putO, q_walkT, q_walkM, q_walkR, q_walkO, q_setN, q_setM, q_setV, q_setlO, q_rng1, q_rng2, q_settV, q_settT, q_settO, q_opdV, q_opdN, q_addO, q_appL, q_popL, q_sortT, q_sortM, q_sortR, q_sortO, q_sset, q_max, q_min, q_mulT, q_cutO, q_cutM, q_enT, q_enM, q_inIT, q_inTT, q_inIR, q_eqMM, q_extend, q_insert, q_extL, q_insL, q_allO, q_allR, q_anyO, q_anyR, q_sumO, q_sumR, hji]
      · simp [wipe, fn_mkF, semSs, semS, sems, sem, mean, ok_seq, ok_thenN, ok_drop, ok_mRet, ok_mPar, ok_bind', ok_bind, ok_pure, ok_pure', ok_val, ok_tmp, ok_bl, ok_ite, ok_call, ok_lc, ok_lc2, ok_op2, ok_cmp, ok_truth, ok_subO, ok_cutO, ok_revO, ok_negO, ok_intOf, ok_bi, ok_meth, ok_metOk, ok_putO, ok_isi, ok_mVar, ok_toD, ok_stO, ok_rvO, ok_asB, ok_settle, ok_mRng, ok_walkO, ok_enumO, ok_ssetO, ok_put, ok_putT, ok_puts0, ok_putsC, ok_setNode, ok_mDs0, ok_mDsC, ok_mOs0, ok_mOsC, ok_mPart0, ok_mPart1, ok_mIfs0, ok_mIfsC, okM_ok, okM_stuck, okM_exc, okM_ite, Ty.below, atI_nat, atI_0, atI_1, atI_2, atI_3, atI_4, atI_5, atI_6, atI_7, atI_last, q_dII, q_dSS, q_dBB, q_dNN, q_dTT, q_dNI, q_dIN, q_dSI, q_dIS, q_dIT, q_dTI, q_dNT, q_dTN, q_dST, q_dTS, q_ds0, q_dsC, q_dsL, q_dsR, q_fI, q_fB, q_fN, q_fT, q_fS, q_f0, q_fC, q_mVar, q_toDv, q_toDt, q_toDo, q_stOv, q_stOt, q_stOo, q_rvOv, q_rvOt, q_rvOo, q_put, q_addI, q_addT, q_addS, q_subI, q_mulI, q_fdivI, q_modI, q_powI, q_shlI, q_shrI, q_addLtt, q_addLot, q_addLoo, q_neg, q_eq, q_ne, q_eqI, q_eqS, q_eqB, q_eqIB, q_eqBI, q_eqT, q_eqSI, q_eqIS, q_eqIT, q_eqTI, q_eqNI, q_eqIN, q_is, q_isnt, q_isNnon, q_isNint, q_isNbl, q_isNstr, q_isNtup, q_isNref, q_lt, q_gt, q_le, q_leT, q_ge, q_in, q_notin, q_trN, q_trB, q_trI, q_trT, q_trS, q_asB, q_subT, q_subR, q_subO, q_subM, q_nodeO, q_nodeR, q_nodeM, q_cutT, q_cutR, q_revT, q_intOf, q_lstR, q_lstM, q_lstO, q_lenT, q_lenS, q_lenR, q_lenO, q_lenM, q_abs, q_intI, q_intB, q_allM, q_anyM, q_sumM, q_tupT, q_tupM, q_tupO, q_tupR, q_listT, q_listM, q_listR, q_listO, q_isi, q_tyN, q_tyB, q_tyI, q_tyS, q_tyT, q_tyR, q_metOk, q_append, q_pop, q_popI, q_setO, q_setR, q_putO, q_walkT, q_walkM, q_walkR, q_walkO, q_setN, q_setM, q_setV, q_setlO, q_rng1, q_rng2, q_settV, q_settT, q_settO, q_opdV, q_opdN, q_addO, q_appL, q_popL, q_sortT, q_sortM, q_sortR, q_sortO, q_sset, q_max, q_min, q_mulT, q_cutO, q_cutM, q_enT, q_enM, q_inIT, q_inTT, q_inIR, q_eqMM, q_extend, q_insert, q_extL, q_insL, q_allO, q_allR, q_anyO, q_anyR, q_sumO, q_sumR, hji]
    · rw [less_eq]
      simp [wipe, unwipe, fn_mkF, semSs, semS, sems, sem, mean, ok_seq, ok_thenN, ok_drop, ok_mRet, ok_mPar, ok_bind', ok_bind, ok_pure, ok_pure', ok_val, ok_tmp, ok_bl, ok_ite, ok_call, ok_lc, ok_lc2, ok_op2, ok_cmp, ok_truth, ok_subO, ok_cutO, ok_revO, ok_negO, ok_intOf, ok_bi, ok_meth, ok_metOk, ok_putO, ok_isi, ok_mVar, ok_toD, ok_stO, ok_rvO, ok_asB, ok_settle, ok_mRng, ok_walkO, ok_enumO, ok_ssetO, ok_put, ok_putT, ok_puts0, ok_putsC, ok_setNode, ok_mDs0, ok_mDsC, ok_mOs0, ok_mOsC, ok_mPart0, ok_mPart1, ok_mIfs0, ok_mIfsC, okM_ok, okM_stuck, okM_exc, okM_ite, Ty.below, atI_nat, atI_0, atI_1, atI_2, atI_3, atI_4, atI_5, atI_6, atI_7, atI_last, q_dII, q_dSS, q_dBB, q_dNN, q_dTT, q_dNI, q_dIN, q_dSI, q_dIS, q_dIT, q_dTI, q_dNT, q_dTN, q_dST, q_dTS, q_ds0, q_dsC, q_dsL, q_dsR, q_fI, q_fB, q_fN, q_fT, q_fS, q_f0, q_fC, q_mVar, q_toDv, q_toDt, q_toDo, q_stOv, q_stOt, q_stOo, q_rvOv, q_rvOt, q_rvOo, q_put, q_addI, q_addT, q_addS, q_subI, q_mulI, q_fdivI, q_modI, q_powI, q_shlI, q_shrI, q_addLtt, q_addLot, q_addLoo, q_neg, q_eq, q_ne, q_eqI, q_eqS, q_eqB, q_eqIB, q_eqBI, q_eqT, q_eqSI, q_eqIS, q_eqIT, q_eqTI, q_eqNI, q_eqIN, q_is, q_isnt, q_isNnon, q_isNint, q_isNbl, q_isNstr, q_isNtup, q_isNref, q_lt, q_gt, q_le, q_leT, q_ge, q_in, q_notin, q_trN, q_trB, q_trI, q_trT, q_trS, q_asB, q_subT, q_subR, q_subO, q_subM, q_nodeO, q_nodeR, q_nodeM, q_cutT, q_cutR, q_revT, q_intOf, q_lstR, q_lstM, q_lstO, q_lenT, q_lenS, q_lenR, q_lenO, q_lenM, q_abs, q_intI, q_intB, q_allM, q_anyM, q_sumM, q_tupT, q_tupM, q_tupO, q_tupR, q_listT, q_listM, q_listR, q_listO, q_isi, q_tyN, q_tyB, q_tyI, q_tyS, q_tyT, q_tyR, q_metOk, q_append, q_pop, q_popI, q_setO, q_setR, q_putO, q_walkT, q_walkM, q_walkR, q_walkO, q_setN, q_setM, q_setV, q_setlO, q_rng1, q_rng2, q_settV, q_settT, q_settO, q_opdV, q_opdN, q_addO, q_appL, q_popL, q_sortT, q_sortM, q_sortR, q_sortO, q_sset, q_max, q_min, q_mulT, q_cutO, q_cutM, q_enT, q_enM, q_inIT, q_inTT, q_inIR, q_eqMM, q_extend, q_insert, q_extL, q_insL, q_allO, q_allR, q_anyO, q_anyR, q_sumO, q_sumR]
  · rw [filterMap_some]
    simp [wipe, unwipe, fn_mkF, semSs, semS, sems, sem, mean, ok_seq, ok_thenN, ok_drop, ok_mRet, ok_mPar, ok_bind', ok_bind, ok_pure, ok_pure', ok_val, ok_tmp, ok_bl, ok_ite, ok_call, ok_lc, ok_lc2, ok_op2, ok_cmp, ok_truth, ok_subO, ok_cutO, ok_revO, ok_negO, ok_intOf, ok_bi, ok_meth, ok_metOk, ok_putO, ok_isi, ok_mVar, ok_toD, ok_stO, ok_rvO, ok_asB, ok_settle, ok_mRng, ok_walkO, ok_enumO, ok_ssetO, ok_put, ok_putT, ok_puts0, ok_putsC, ok_setNode, ok_mDs0, ok_mDsC, ok_mOs0, ok_mOsC, ok_mPart0, ok_mPart1, ok_mIfs0, ok_mIfsC, okM_ok, okM_stuck, okM_exc, okM_ite, Ty.below, atI_nat, atI_0, atI_1, atI_2, atI_3, atI_4, atI_5, atI_6, atI_7, atI_last, q_dII, q_dSS, q_dBB, q_dNN, q_dTT, q_dNI, q_dIN, q_dSI, q_dIS, q_dIT, q_dTI, q_dNT, q_dTN, q_dST, q_dTS, q_ds0, q_dsC, q_dsL, q_dsR, q_fI, q_fB, q_fN, q_fT, q_fS, q_f0, q_fC, q_mVar, q_toDv, q_toDt, q_toDo, q_stOv, q_stOt, q_stOo, q_rvOv, q_rvOt, q_rvOo, q_put, q_addI, q_addT, q_addS, q_subI, q_mulI, q_fdivI, q_modI, q_powI, q_shlI, q_shrI, q_addLtt, q_addLot, q_addLoo, q_neg, q_eq, q_ne, q_eqI, q_eqS, q_eqB, q_eqIB, q_eqBI, q_eqT, q_eqSI, q_eqIS, q_eqIT, q_eqTI, q_eqNI, q_eqIN, q_is, q_isnt, q_isNnon, q_isNint, q_isNbl, q_isNstr, q_isNtup, q_isNref, q_lt, q_gt, q_le, q_leT, q_ge, q_in, q_notin, q_trN, q_trB, q_trI, q_trT, q_trS, q_asB, q_subT, q_subR, q_subO, q_subM, q_nodeO, q_nodeR, q_nodeM, q_cutT, q_cutR, q_revT, q_intOf, q_lstR, q_lstM, q_lstO, q_lenT, q_lenS, q_lenR, q_lenO, q_lenM, q_abs, q_intI, q_intB, q_allM, q_anyM, q_sumM, q_tupT, q_tupM, q_tupO, q_tupR, q_listT, q_listM, q_listR, q_listO, q_isi, q_tyN, q_tyB, q_tyI, q_tyS, q_tyT, q_tyR, q_metOk, q_append, q_pop, q_popI, q_setO, q_setR, q_putO, q_walkT, q_walkM, q_walkR, q_walkO, q_setN, q_setM, q_setV, q_setlO, q_rng1, q_rng2, q_settV, q_settT, q_settO, q_opdV, q_opdN, q_addO, q_appL, q_popL, q_sortT, q_sortM, q_sortR, q_sortO, q_sset, q_max, q_min, q_mulT, q_cutO, q_cutM, q_enT, q_enM, q_inIT, q_inTT, q_inIR, q_eqMM, q_extend, q_insert, q_extL, q_insL, q_allO, q_allR, q_anyO, q_anyR, q_sumO, q_sumR, gc_same, wsD]
def SortedSp (f : FnD) : Prop := ∀ (w : List (List Int)) (h : List Node), w.length ≤ lim → f [wD w] h = .ret (.val (.tup (D.srt (wsD w)))) h
def irSorted : ISs := (.cons (.ret (.bi .tuple (.cons (.bi .sorted (.cons (.var 0) .nil)) .nil)))
  .nil)
theorem sorted_sp (T : Tb) : SortedSp (mkF 1 (semSs T irSorted)) := by
  intro w h hl
  apply fn_eq
  have h1 := flat_ws 59 w
  have h2 := likes_ws w
  have h3 := ws_len w
  simp [irSorted, wD, fn_mkF, semSs, semS, sems, sem, mean, ok_seq, ok_thenN, ok_drop, ok_mRet, ok_mPar, ok_bind', ok_bind, ok_pure, ok_pure', ok_val, ok_tmp, ok_bl, ok_ite, ok_call, ok_lc, ok_lc2, ok_op2, ok_cmp, ok_truth, ok_subO, ok_cutO, ok_revO, ok_negO, ok_intOf, ok_bi, ok_meth, ok_metOk, ok_putO, ok_isi, ok_mVar, ok_toD, ok_stO, ok_rvO, ok_asB, ok_settle, ok_mRng, ok_walkO, ok_enumO, ok_ssetO, ok_put, ok_putT, ok_puts0, ok_putsC, ok_setNode, ok_mDs0, ok_mDsC, ok_mOs0, ok_mOsC, ok_mPart0, ok_mPart1, ok_mIfs0, ok_mIfsC, okM_ok, okM_stuck, okM_exc, okM_ite, Ty.below, atI_nat, atI_0, atI_1, atI_2, atI_3, atI_4, atI_5, atI_6, atI_7, atI_last, q_dII, q_dSS, q_dBB, q_dNN, q_dTT, q_dNI, q_dIN, q_dSI, q_dIS, q_dIT, q_dTI, q_dNT, q_dTN, q_dST, q_dTS, q_ds0, q_dsC, q_dsL, q_dsR, q_fI, q_fB, q_fN, q_fT, q_fS, q_f0, q_fC, q_mVar, q_toDv, q_toDt, q_toDo, q_stOv, q_stOt, q_stOo, q_rvOv, q_rvOt, q_rvOo, q_put, q_addI, q_addT, q_addS, q_subI, q_mulI, q_fdivI, q_modI, q_powI, q_shlI, q_shrI, q_addLtt, q_addLot, q_addLoo, q_neg, q_eq, q_ne, q_eqI, q_eqS, q_eqB, q_eqIB, q_eqBI, q_eqT, q_eqSI, q_eqIS, q_eqIT, q_eqTI, q_eqNI, q_eqIN, q_is, q_isnt, q_isNnon, q_isNint, q_isNbl, q_isNstr, q_isNtup, q_isNref, q_lt, q_gt, q_le, q_leT, q_ge, q_in, q_notin, q_trN, q_trB, q_trI, q_trT, q_trS, q_asB, q_subT, q_subR, q_subO, q_subM, q_nodeO, q_nodeR, q_nodeM, q_cutT, q_cutR, q_revT, q_intOf, q_lstR, q_lstM, q_lstO, q_lenT, q_lenS, q_lenR, q_lenO, q_lenM, q_abs, q_intI, q_intB, q_allM, q_anyM, q_sumM, q_tupT, q_tupM, q_tupO, q_tupR, q_listT, q_listM, q_listR, q_listO, q_isi, q_tyN, q_tyB, q_tyI, q_tyS, q_tyT, q_tyR, q_metOk, q_append, q_pop, q_popI, q_setO, q_setR, q_putO, q_walkT, q_walkM, q_walkR, q_walkO, q_setN, q_setM, q_setV, q_setlO, q_rng1, q_rng2, q_settV, q_settT, q_settO, q_opdV, q_opdN, q_addO, q_appL, q_popL, q_sortT, q_sortM, q_sortR, q_sortO, q_sset, q_max, q_min, q_mulT, q_cutO, q_cutM, q_enT, q_enM, q_inIT, q_inTT, q_inIR, q_eqMM, q_extend, q_insert, q_extL, q_insL, q_allO, q_allR, q_anyO, q_anyR, q_sumO, q_sumR, gc_same, h1, h2, h3, hl]
def JoinedSp (f : FnD) : Prop := ∀ (a b : List D) (h : List Node), a.length + b.length ≤ lim → f [.tup a, .tup b] h = .ret (.val (.tup (a ++ b))) h
def irJoined : ISs := (.cons (.ret (.bin .add (.var 0) (.var 1)))
  .nil)
theorem joined_sp (T : Tb) : JoinedSp (mkF 2 (semSs T irJoined)) := by
  intro a b h hl
  apply fn_eq
  simp [irJoined, fn_mkF, semSs, semS, sems, sem, mean, ok_seq, ok_thenN, ok_drop, ok_mRet, ok_mPar, ok_bind', ok_bind, ok_pure, ok_pure', ok_val, ok_tmp, ok_bl, ok_ite, ok_call, ok_lc, ok_lc2, ok_op2, ok_cmp, ok_truth, ok_subO, ok_cutO, ok_revO, ok_negO, ok_intOf, ok_bi, ok_meth, ok_metOk, ok_putO, ok_isi, ok_mVar, ok_toD, ok_stO, ok_rvO, ok_asB, ok_settle, ok_mRng, ok_walkO, ok_enumO, ok_ssetO, ok_put, ok_putT, ok_puts0, ok_putsC, ok_setNode, ok_mDs0, ok_mDsC, ok_mOs0, ok_mOsC, ok_mPart0, ok_mPart1, ok_mIfs0, ok_mIfsC, okM_ok, okM_stuck, okM_exc, okM_ite, Ty.below, atI_nat, atI_0, atI_1, atI_2, atI_3, atI_4, atI_5, atI_6, atI_7, atI_last, q_dII, q_dSS, q_dBB, q_dNN, q_dTT, q_dNI, q_dIN, q_dSI, q_dIS, q_dIT, q_dTI, q_dNT, q_dTN, q_dST, q_dTS, q_ds0, q_dsC, q_dsL, q_dsR, q_fI, q_fB, q_fN, q_fT, q_fS, q_f0, q_fC, q_mVar, q_toDv, q_toDt, q_toDo, q_stOv, q_stOt, q_stOo, q_rvOv, q_rvOt, q_rvOo, q_put, q_addI, q_addT, q_addS, q_subI, q_mulI, q_fdivI, q_modI, q_powI, q_shlI, q_shrI, q_addLtt, q_addLot, q_addLoo, q_neg, q_eq, q_ne, q_eqI, q_eqS, q_eqB, q_eqIB, q_eqBI, q_eqT, q_eqSI, q_eqIS, q_eqIT, q_eqTI, q_eqNI, q_eqIN, q_is, q_isnt, q_isNnon, q_isNint, q_isNbl, q_isNstr, q_isNtup, q_isNref, q_lt, q_gt, q_le, q_leT, q_ge, q_in, q_notin, q_trN, q_trB, q_trI, q_trT, q_trS, q_asB, q_subT, q_subR, q_subO, q_subM, q_nodeO, q_nodeR, q_nodeM, q_cutT, q_cutR, q_revT, q_intOf, q_lstR, q_lstM, q_lstO, q_lenT, q_lenS, q_lenR, q_lenO, q_lenM, q_abs, q_intI, q_intB, q_allM, q_anyM, q_sumM, q_tupT, q_tupM, q_tupO, q_tupR, q_listT, q_listM, q_listR, q_listO, q_isi, q_tyN, q_tyB, q_tyI, q_tyS, q_tyT, q_tyR, q_metOk, q_append, q_pop, q_popI, q_setO, q_setR, q_putO, q_walkT, q_walkM, q_walkR, q_walkO, q_setN, q_setM, q_setV, q_setlO, q_rng1, q_rng2, q_settV, q_settT, q_settO, q_opdV, q_opdN, q_addO, q_appL, q_popL, q_sortT, q_sortM, q_sortR, q_sortO, q_sset, q_max, q_min, q_mulT, q_cutO, q_cutM, q_enT, q_enM, q_inIT, q_inTT, q_inIR, q_eqMM, q_extend, q_insert, q_extL, q_insL, q_allO, q_allR, q_anyO, q_anyR, q_sumO, q_sumR, gc_same, hl]
/-! ### the law's own -/
def irLHolds : ISs := (.cons (.asg (.tup [(.name 2), (.name 3)]) (.cut (.var 1) .nil (.cons (.int 2) .nil)))
  (.cons (.ife (.cmp .eq (.var 2) (.str "all")) (.cons (.ret (.cmp .eq (.bi .len (.cons (.lc [4] (.var 4) (.name 4) (.var 0) (.cons (.and (.cmp .isIn (.var 3) (.var 4)) (.cmp .notIn (.sub (.var 1) (.int 2)) (.var 4))) .nil)) .nil)) (.int 0)))
  .nil) .nil)
  (.cons (.ife (.cmp .eq (.var 2) (.str "some")) (.cons (.ret (.cmp .gt (.bi .len (.cons (.lc [4] (.var 4) (.name 4) (.var 0) (.cons (.and (.cmp .isIn (.var 3) (.var 4)) (.cmp .isIn (.sub (.var 1) (.int 2)) (.var 4))) .nil)) .nil)) (.int 0)))
  .nil) .nil)
  (.cons (.ife (.cmp .eq (.var 2) (.str "least")) (.cons (.ret (.cmp .ge (.call 1290 (.cons (.var 0) (.cons (.var 3) .nil))) (.sub (.var 1) (.int 2))))
  .nil) .nil)
  (.cons (.ret (.cmp .ge (.call 1290 (.cons (.var 0) (.cons (.var 3) .nil))) (.bin .add (.call 1290 (.cons (.var 0) (.cons (.sub (.var 1) (.int 2)) .nil))) (.sub (.var 1) (.int 3)))))
  .nil)))))
theorem cut2 (a b c : D) : cut [a, b, c] none (some 2) = [a, b] := rfl
theorem cut2' (a b c d : D) : cut [a, b, c, d] none (some 2) = [a, b] := rfl
theorem all_cnt {α : Type} (p q : α → Bool) (l : List α) : decide ((l.filter fun t => p t && !q t) = []) = l.all fun t => !p t || q t := by
  induction l with
  | nil => rfl
  | cons a l ih =>
    rw [List.all_cons, ← ih]
    cases h1 : p a <;> cases h2 : q a <;> simp [List.filter_cons, h1, h2]
theorem any_cnt {α : Type} (p q : α → Bool) (l : List α) : decide (0 < (l.filter fun t => p t && q t).length) = l.any fun t => p t && q t := by
  induction l with
  | nil => rfl
  | cons a l ih =>
    rw [List.any_cons, ← ih]
    cases h1 : p a <;> cases h2 : q a <;> simp [List.filter_cons, h1, h2]
theorem lholds_sp {T : Tb} (sz : SizeSp (T.fn 1290)) : HoldsSp (mkF 5 (semSs T irLHolds)) := by
  intro w s d h hs hl
  apply fn_eq
  obtain ⟨live, e1, e2, _⟩ := seq_walk hs
  cases s with
  | lea a n => simp [irLHolds, Sen.d, fn_mkF, semSs, semS, sems, sem, mean, ok_seq, ok_thenN, ok_drop, ok_mRet, ok_mPar, ok_bind', ok_bind, ok_pure, ok_pure', ok_val, ok_tmp, ok_bl, ok_ite, ok_call, ok_lc, ok_lc2, ok_op2, ok_cmp, ok_truth, ok_subO, ok_cutO, ok_revO, ok_negO, ok_intOf, ok_bi, ok_meth, ok_metOk, ok_putO, ok_isi, ok_mVar, ok_toD, ok_stO, ok_rvO, ok_asB, ok_settle, ok_mRng, ok_walkO, ok_enumO, ok_ssetO, ok_put, ok_putT, ok_puts0, ok_putsC, ok_setNode, ok_mDs0, ok_mDsC, ok_mOs0, ok_mOsC, ok_mPart0, ok_mPart1, ok_mIfs0, ok_mIfsC, okM_ok, okM_stuck, okM_exc, okM_ite, Ty.below, atI_nat, atI_0, atI_1, atI_2, atI_3, atI_4, atI_5, atI_6, atI_7, atI_last, q_dII, q_dSS, q_dBB, q_dNN, q_dTT, q_dNI, q_dIN, q_dSI, q_dIS, q_dIT, q_dTI, q_dNT, q_dTN, q_dST, q_dTS, q_ds0, q_dsC, q_dsL, q_dsR, q_fI, q_fB, q_fN, q_fT, q_fS, q_f0, q_fC, q_mVar, q_toDv, q_toDt, q_toDo, q_stOv, q_stOt, q_stOo, q_rvOv, q_rvOt, q_rvOo, q_put, q_addI, q_addT, q_addS, q_subI, q_mulI, q_fdivI, q_modI, q_powI, q_shlI, q_shrI, q_addLtt, q_addLot, q_addLoo, q_neg, q_eq, q_ne, q_eqI, q_eqS, q_eqB, q_eqIB, q_eqBI, q_eqT, q_eqSI, q_eqIS, q_eqIT, q_eqTI, q_eqNI, q_eqIN, q_is, q_isnt, q_isNnon, q_isNint, q_isNbl, q_isNstr, q_isNtup, q_isNref, q_lt, q_gt, q_le, q_leT, q_ge, q_in, q_notin, q_trN, q_trB, q_trI, q_trT, q_trS, q_asB, q_subT, q_subR, q_subO, q_subM, q_nodeO, q_nodeR, q_nodeM, q_cutT, q_cutR, q_revT, q_intOf, q_lstR, q_lstM, q_lstO, q_lenT, q_lenS, q_lenR, q_lenO, q_lenM, q_abs, q_intI, q_intB, q_allM, q_anyM, q_sumM, q_tupT, q_tupM, q_tupO, q_tupR, q_listT, q_listM, q_listR, q_listO, q_isi, q_tyN, q_tyB, q_tyI, q_tyS, q_tyT, q_tyR, q_metOk, q_append, q_pop, q_popI, q_setO, q_setR, q_putO, q_walkT, q_walkM, q_walkR, q_walkO, q_setN, q_setM, q_setV, q_setlO, q_rng1, q_rng2, q_settV, q_settT, q_settO, q_opdV, q_opdN, q_addO, q_appL, q_popL, q_sortT, q_sortM, q_sortR, q_sortO, q_sset, q_max, q_min, q_mulT, q_cutO, q_cutM, q_enT, q_enM, q_inIT, q_inTT, q_inIR, q_eqMM, q_extend, q_insert, q_extL, q_insL, q_allO, q_allR, q_anyO, q_anyR, q_sumO, q_sumR, gc_same, -beq_iff_eq, -beq_eq_false_iff_ne, str3, str11, cut2, fn_ret (sz w a d h hs hl), holdsW]
  | mor a b n => simp [irLHolds, Sen.d, fn_mkF, semSs, semS, sems, sem, mean, ok_seq, ok_thenN, ok_drop, ok_mRet, ok_mPar, ok_bind', ok_bind, ok_pure, ok_pure', ok_val, ok_tmp, ok_bl, ok_ite, ok_call, ok_lc, ok_lc2, ok_op2, ok_cmp, ok_truth, ok_subO, ok_cutO, ok_revO, ok_negO, ok_intOf, ok_bi, ok_meth, ok_metOk, ok_putO, ok_isi, ok_mVar, ok_toD, ok_stO, ok_rvO, ok_asB, ok_settle, ok_mRng, ok_walkO, ok_enumO, ok_ssetO, ok_put, ok_putT, ok_puts0, ok_putsC, ok_setNode, ok_mDs0, ok_mDsC, ok_mOs0, ok_mOsC, ok_mPart0, ok_mPart1, ok_mIfs0, ok_mIfsC, okM_ok, okM_stuck, okM_exc, okM_ite, Ty.below, atI_nat, atI_0, atI_1, atI_2, atI_3, atI_4, atI_5, atI_6, atI_7, atI_last, q_dII, q_dSS, q_dBB, q_dNN, q_dTT, q_dNI, q_dIN, q_dSI, q_dIS, q_dIT, q_dTI, q_dNT, q_dTN, q_dST, q_dTS, q_ds0, q_dsC, q_dsL, q_dsR, q_fI, q_fB, q_fN, q_fT, q_fS, q_f0, q_fC, q_mVar, q_toDv, q_toDt, q_toDo, q_stOv, q_stOt, q_stOo, q_rvOv, q_rvOt, q_rvOo, q_put, q_addI, q_addT, q_addS, q_subI, q_mulI, q_fdivI, q_modI, q_powI, q_shlI, q_shrI, q_addLtt, q_addLot, q_addLoo, q_neg, q_eq, q_ne, q_eqI, q_eqS, q_eqB, q_eqIB, q_eqBI, q_eqT, q_eqSI, q_eqIS, q_eqIT, q_eqTI, q_eqNI, q_eqIN, q_is, q_isnt, q_isNnon, q_isNint, q_isNbl, q_isNstr, q_isNtup, q_isNref, q_lt, q_gt, q_le, q_leT, q_ge, q_in, q_notin, q_trN, q_trB, q_trI, q_trT, q_trS, q_asB, q_subT, q_subR, q_subO, q_subM, q_nodeO, q_nodeR, q_nodeM, q_cutT, q_cutR, q_revT, q_intOf, q_lstR, q_lstM, q_lstO, q_lenT, q_lenS, q_lenR, q_lenO, q_lenM, q_abs, q_intI, q_intB, q_allM, q_anyM, q_sumM, q_tupT, q_tupM, q_tupO, q_tupR, q_listT, q_listM, q_listR, q_listO, q_isi, q_tyN, q_tyB, q_tyI, q_tyS, q_tyT, q_tyR, q_metOk, q_append, q_pop, q_popI, q_setO, q_setR, q_putO, q_walkT, q_walkM, q_walkR, q_walkO, q_setN, q_setM, q_setV, q_setlO, q_rng1, q_rng2, q_settV, q_settT, q_settO, q_opdV, q_opdN, q_addO, q_appL, q_popL, q_sortT, q_sortM, q_sortR, q_sortO, q_sset, q_max, q_min, q_mulT, q_cutO, q_cutM, q_enT, q_enM, q_inIT, q_inTT, q_inIR, q_eqMM, q_extend, q_insert, q_extL, q_insL, q_allO, q_allR, q_anyO, q_anyR, q_sumO, q_sumR, gc_same, -beq_iff_eq, -beq_eq_false_iff_ne, str8, str5, str12, cut2', fn_ret (sz w a d h hs hl), fn_ret (sz w b d h hs hl), holdsW]
  | all a b =>
    simp [irLHolds, Sen.d, fn_mkF, semSs, semS, sems, sem, mean, ok_seq, ok_thenN, ok_drop, ok_mRet, ok_mPar, ok_bind', ok_bind, ok_pure, ok_pure', ok_val, ok_tmp, ok_bl, ok_ite, ok_call, ok_lc, ok_lc2, ok_op2, ok_cmp, ok_truth, ok_subO, ok_cutO, ok_revO, ok_negO, ok_intOf, ok_bi, ok_meth, ok_metOk, ok_putO, ok_isi, ok_mVar, ok_toD, ok_stO, ok_rvO, ok_asB, ok_settle, ok_mRng, ok_walkO, ok_enumO, ok_ssetO, ok_put, ok_putT, ok_puts0, ok_putsC, ok_setNode, ok_mDs0, ok_mDsC, ok_mOs0, ok_mOsC, ok_mPart0, ok_mPart1, ok_mIfs0, ok_mIfsC, okM_ok, okM_stuck, okM_exc, okM_ite, Ty.below, atI_nat, atI_0, atI_1, atI_2, atI_3, atI_4, atI_5, atI_6, atI_7, atI_last, q_dII, q_dSS, q_dBB, q_dNN, q_dTT, q_dNI, q_dIN, q_dSI, q_dIS, q_dIT, q_dTI, q_dNT, q_dTN, q_dST, q_dTS, q_ds0, q_dsC, q_dsL, q_dsR, q_fI, q_fB, q_fN, q_fT, q_fS, q_f0, q_fC, q_mVar, q_toDv, q_toDt, q_toDo, q_stOv, q_stOt, q_stOo, q_rvOv, q_rvOt, q_rvOo, q_put, q_addI, q_addT, q_addS, q_subI, q_mulI, q_fdivI, q_modI, q_powI, q_shlI, q_shrI, q_addLtt, q_addLot, q_addLoo, q_neg, q_eq, q_ne, q_eqI, q_eqS, q_eqB, q_eqIB, q_eqBI, q_eqT, q_eqSI, q_eqIS, q_eqIT, q_eqTI, q_eqNI, q_eqIN, q_is, q_isnt, q_isNnon, q_isNint, q_isNbl, q_isNstr, q_isNtup, q_isNref, q_lt, q_gt, q_le, q_leT, q_ge, q_in, q_notin, q_trN, q_trB, q_trI, q_trT, q_trS, q_asB, q_subT, q_subR, q_subO, q_subM, q_nodeO, q_nodeR, q_nodeM, q_cutT, q_cutR, q_revT, q_intOf, q_lstR, q_lstM, q_lstO, q_lenT, q_lenS, q_lenR, q_lenO, q_lenM, q_abs, q_intI, q_intB, q_allM, q_anyM, q_sumM, q_tupT, q_tupM, q_tupO, q_tupR, q_listT, q_listM, q_listR, q_listO, q_isi, q_tyN, q_tyB, q_tyI, q_tyS, q_tyT, q_tyR, q_metOk, q_append, q_pop, q_popI, q_setO, q_setR, q_putO, q_walkT, q_walkM, q_walkR, q_walkO, q_setN, q_setM, q_setV, q_setlO, q_rng1, q_rng2, q_settV, q_settT, q_settO, q_opdV, q_opdN, q_addO, q_appL, q_popL, q_sortT, q_sortM, q_sortR, q_sortO, q_sset, q_max, q_min, q_mulT, q_cutO, q_cutM, q_enT, q_enM, q_inIT, q_inTT, q_inIR, q_eqMM, q_extend, q_insert, q_extL, q_insL, q_allO, q_allR, q_anyO, q_anyR, q_sumO, q_sumR, gc_same, cut2, wipe, e1]
    refine ok_lc_pure (w := ⟨wsD w, live⟩) (own := [4]) (sl := [.val d, .val (.tup [.str "all", .int a, .int b]), .val (.str "all"), .val (.int a), .unset]) (pick (fun t => decide (a ∈ t) && !decide (b ∈ t)) tD) (e2 _) (by rw [ws_len]; exact hl) (fun x hx => ?_) ?_
    · obtain ⟨t, ht, rfl⟩ := List.mem_map.mp hx
      rw [pick_t]
      have ef := flat_ints 60 t
      have ea := any_ints a t
      have ea2 := any_ints b t
      by_cases hi : a ∈ t
      · by_cases hj : b ∈ t
        · simp [wipe, tD, fn_mkF, semSs, semS, sems, sem, mean, ok_seq, ok_thenN, ok_drop, ok_mRet, ok_mPar, ok_bind', ok_bind, ok_pure, ok_pure', ok_val, ok_tmp, ok_bl, ok_ite, ok_call, ok_lc, ok_lc2, ok_op2, ok_cmp, ok_truth, ok_subO, ok_cutO, ok_revO, ok_negO, ok_intOf, ok_bi, ok_meth, ok_metOk, ok_putO, ok_isi, ok_mVar, ok_toD, ok_stO, ok_rvO, ok_asB, ok_settle, ok_mRng, ok_walkO, ok_enumO, ok_ssetO, ok_put, ok_putT, ok_puts0, ok_putsC, ok_setNode, ok_mDs0, ok_mDsC, ok_mOs0, ok_mOsC, ok_mPart0, ok_mPart1, ok_mIfs0, ok_mIfsC, okM_ok, okM_stuck, okM_exc, okM_ite, Ty.below, atI_nat, atI_0, atI_1, atI_2, atI_3, atI_4, atI_5, atI_6, atI_7, atI_last, q_dII, q_dSS, q_dBB, q_dNN, q_dTT, q_dNI, q_dIN, q_dSI, q_dIS, q_dIT, q_dTI, q_dNT, q_dTN, q_dST, q_dTS, q_ds0, q_dsC, q_dsL, q_dsR, q_fI, q_fB, q_fN, q_fT, q_fS, q_f0, q_fC, q_mVar, q_toDv, q_toDt, q_toDo, q_stOv, q_stOt, q_stOo, q_rvOv, q_rvOt, q_rvOo, q_put, q_addI, q_addT, q_addS, q_subI, q_mulI, q_fdivI, q_modI, q_powI, q_shlI, q_shrI, q_addLtt, q_addLot, q_addLoo, q_neg, q_eq, q_ne, q_eqI, q_eqS, q_eqB, q_eqIB, q_eqBI, q_eqT, q_eqSI, q_eqIS, q_eqIT, q_eqTI, q_eqNI, q_eqIN, q_is, q_isnt, q_isNnon, q_isNint, q_isNbl, q_isNstr, q_isNtup, q_isNref, q_lt, q_gt, q_le, q_leT, q_ge, q_in, q_notin, q_trN, q_trB, q_trI, q_trT, q_trS, q_asB, q_subT, q_subR, q_subO, q_subM, q_nodeO, q_nodeR, q_nodeM, q_cutT, q_cutR, q_revT, q_intOf, q_lstR, q_lstM, q_lstO, q_lenT, q_lenS, q_lenR, q_lenO, q_lenM, q_abs, q_intI, q_intB, q_allM, q_anyM, q_sumM, q_tupT, q_tupM, q_tupO, q_tupR, q_listT, q_listM, q_listR, q_listO, q_isi, q_tyN, q_tyB, q_tyI, q_tyS, q_tyT, q_tyR, q_metOk, q_append, q_pop, q_popI, q_setO, q_setR, q_putO, q_walkT, q_walkM, q_walkR, q_walkO, q_setN, q_setM, q_setV, q_setlO, q_rng1, q_rng2, q_settV, q_settT, q_settO, q_opdV, q_opdN, q_addO, q_appL, q_popL, q_sortT, q_sortM, q_sortR, q_sortO, q_sset, q_max, q_min, q_mulT, q_cutO, q_cutM, q_enT, q_enM, q_inIT, q_inTT, q_inIR, q_eqMM, q_extend, q_insert, q_extL, q_insL, q_allO, q_allR, q_anyO, q_anyR, q_sumO, q_sumR, flat_int_k, ef, ea, ea2, hi, hj]
        · simp [wipe, tD, fn_mkF, semSs, semS, sems, sem, mean, ok_seq, ok_thenN, ok_drop, ok_mRet, ok_mPar, ok_bind', ok_bind, ok_pure, ok_pure', ok_val, ok_tmp, ok_bl, ok_ite, ok_call, ok_lc, ok_lc2, ok_op2, ok_cmp, ok_truth, ok_subO, ok_cutO, ok_revO, ok_negO, ok_intOf, ok_bi, ok_meth, ok_metOk, ok_putO, ok_isi, ok_mVar, ok_toD, ok_stO, ok_rvO, ok_asB, ok_settle, ok_mRng, ok_walkO, ok_enumO, ok_ssetO, ok_put, ok_putT, ok_puts0, ok_putsC, ok_setNode, ok_mDs0, ok_mDsC, ok_mOs0, ok_mOsC, ok_mPart0, ok_mPart1, ok_mIfs0, ok_mIfsC, okM_ok, okM_stuck, okM_exc, okM_ite, Ty.below, atI_nat, atI_0, atI_1, atI_2, atI_3, atI_4, atI_5, atI_6, atI_7, atI_last, q_dII, q_dSS, q_dBB, q_dNN, q_dTT, q_dNI, q_dIN, q_dSI, q_dIS, q_dIT, q_dTI, q_dNT, q_dTN, q_dST, q_dTS, q_ds0, q_dsC, q_dsL, q_dsR, q_fI, q_fB, q_fN, q_fT, q_fS, q_f0, q_fC, q_mVar, q_toDv, q_toDt, q_toDo, q_stOv, q_stOt, q_stOo, q_rvOv, q_rvOt, q_rvOo, q_put, q_addI, q_addT, q_addS, q_subI, q_mulI, q_fdivI, q_modI, q_powI, q_shlI, q_shrI, q_addLtt, q_addLot, q_addLoo, q_neg, q_eq, q_ne, q_eqI, q_eqS, q_eqB, q_eqIB, q_eqBI, q_eqT, q_eqSI, q_eqIS, q_eqIT, q_eqTI, q_eqNI, q_eqIN, q_is, q_isnt, q_isNnon, q_isNint, q_isNbl, q_isNstr, q_isNtup, q_isNref, q_lt, q_gt, q_le, q_leT, q_ge, q_in, q_notin, q_trN, q_trB, q_trI, q_trT, q_trS, q_asB, q_subT, q_subR, q_subO, q_subM, q_nodeO, q_nodeR, q_nodeM, q_cutT, q_cutR, q_revT, q_intOf, q_lstR, q_lstM, q_lstO, q_lenT, q_lenS, q_lenR, q_lenO, q_lenM, q_abs, q_intI, q_intB, q_allM, q_anyM, q_sumM, q_tupT, q_tupM, q_tupO, q_tupR, q_listT, q_listM, q_listR, q_listO, q_isi, q_tyN, q_tyB, q_tyI, q_tyS, q_tyT, q_tyR, q_metOk, q_append, q_pop, q_popI, q_setO, q_setR, q_putO, q_walkT, q_walkM, q_walkR, q_walkO, q_setN, q_setM, q_setV, q_setlO, q_rng1, q_rng2, q_settV, q_settT, q_settO, q_opdV, q_opdN, q_addO, q_appL, q_popL, q_sortT, q_sortM, q_sortR, q_sortO, q_sset, q_max, q_min, q_mulT, q_cutO, q_cutM, q_enT, q_enM, q_inIT, q_inTT, q_inIR, q_eqMM, q_extend, q_insert, q_extL, q_insL, q_allO, q_allR, q_anyO, q_anyR, q_sumO, q_sumR, flat_int_k, ef, ea, ea2, hi, hj]
      · simp [wipe, tD, fn_mkF, semSs, semS, sems, sem, mean, ok_seq, ok_thenN, ok_drop, ok_mRet, ok_mPar, ok_bind', ok_bind, ok_pure, ok_pure', ok_val, ok_tmp, ok_bl, ok_ite, ok_call, ok_lc, ok_lc2, ok_op2, ok_cmp, ok_truth, ok_subO, ok_cutO, ok_revO, ok_negO, ok_intOf, ok_bi, ok_meth, ok_metOk, ok_putO, ok_isi, ok_mVar, ok_toD, ok_stO, ok_rvO, ok_asB, ok_settle, ok_mRng, ok_walkO, ok_enumO, ok_ssetO, ok_put, ok_putT, ok_puts0, ok_putsC, ok_setNode, ok_mDs0, ok_mDsC, ok_mOs0, ok_mOsC, ok_mPart0, ok_mPart1, ok_mIfs0, ok_mIfsC, okM_ok, okM_stuck, okM_exc, okM_ite, Ty.below, atI_nat, atI_0, atI_1, atI_2, atI_3, atI_4, atI_5, atI_6, atI_7, atI_last, q_dII, q_dSS, q_dBB, q_dNN, q_dTT, q_dNI, q_dIN, q_dSI, q_dIS, q_dIT, q_dTI, q_dNT, q_dTN, q_dST, q_dTS, q_ds0, q_dsC, q_dsL, q_dsR, q_fI, q_fB, q_fN, q_fT, q_fS, q_f0, q_fC, q_mVar, q_toDv, q_toDt, q_toDo, q_stOv, q_stOt, q_stOo, q_rvOv, q_rvOt, q_rvOo, q_put, q_addI, q_addT, q_addS, q_subI, q_mulI, q_fdivI, q_modI, q_powI, q_shlI, q_shrI, q_addLtt, q_addLot, q_addLoo, q_neg, q_eq, q_ne, q_eqI, q_eqS, q_eqB, q_eqIB, q_eqBI, q_eqT, q_eqSI, q_eqIS, q_eqIT, q_eqTI, q_eqNI, q_eqIN, q_is, q_isnt, q_isNnon, q_isNint, q_isNbl, q_isNstr, q_isNtup, q_isNref, q_lt, q_gt, q_le, q_leT, q_ge, q_in, q_notin, q_trN, q_trB, q_trI, q_trT, q_trS, q_asB, q_subT, q_subR, q_subO, q_subM, q_nodeO, q_nodeR, q_nodeM, q_cutT, q_cutR, q_revT, q_intOf, q_lstR, q_lstM, q_lstO, q_lenT, q_lenS, q_lenR, q_lenO, q_lenM, q_abs, q_intI, q_intB, q_allM, q_anyM, q_sumM, q_tupT, q_tupM, q_tupO, q_tupR, q_listT, q_listM, q_listR, q_listO, q_isi, q_tyN, q_tyB, q_tyI, q_tyS, q_tyT, q_tyR, q_metOk, q_append, q_pop, q_popI, q_setO, q_setR, q_putO, q_walkT, q_walkM, q_walkR, q_walkO, q_setN, q_setM, q_setV, q_setlO, q_rng1, q_rng2, q_settV, q_settT, q_settO, q_opdV, q_opdN, q_addO, q_appL, q_popL, q_sortT, q_sortM, q_sortR, q_sortO, q_sset, q_max, q_min, q_mulT, q_cutO, q_cutM, q_enT, q_enM, q_inIT, q_inTT, q_inIR, q_eqMM, q_extend, q_insert, q_extL, q_insL, q_allO, q_allR, q_anyO, q_anyR, q_sumO, q_sumR, flat_int_k, ef, ea, hi]
    · rw [pick_ws]
      simp [wipe, unwipe, fn_mkF, semSs, semS, sems, sem, mean, ok_seq, ok_thenN, ok_drop, ok_mRet, ok_mPar, ok_bind', ok_bind, ok_pure, ok_pure', ok_val, ok_tmp, ok_bl, ok_ite, ok_call, ok_lc, ok_lc2, ok_op2, ok_cmp, ok_truth, ok_subO, ok_cutO, ok_revO, ok_negO, ok_intOf, ok_bi, ok_meth, ok_metOk, ok_putO, ok_isi, ok_mVar, ok_toD, ok_stO, ok_rvO, ok_asB, ok_settle, ok_mRng, ok_walkO, ok_enumO, ok_ssetO, ok_put, ok_putT, ok_puts0, ok_putsC, ok_setNode, ok_mDs0, ok_mDsC, ok_mOs0, ok_mOsC, ok_mPart0, ok_mPart1, ok_mIfs0, ok_mIfsC, okM_ok, okM_stuck, okM_exc, okM_ite, Ty.below, atI_nat, atI_0, atI_1, atI_2, atI_3, atI_4, atI_5, atI_6, atI_7, atI_last, q_dII, q_dSS, q_dBB, q_dNN, q_dTT, q_dNI, q_dIN, q_dSI, q_dIS, q_dIT, q_dTI, q_dNT, q_dTN, q_dST, q_dTS, q_ds0, q_dsC, q_dsL, q_dsR, q_fI, q_fB, q_fN, q_fT, q_fS, q_f0, q_fC, q_mVar, q_toDv, q_toDt, q_toDo, q_stOv, q_stOt, q_stOo, q_rvOv, q_rvOt, q_rvOo, q_put, q_addI, q_addT, q_addS, q_subI, q_mulI, q_fdivI, q_modI, q_powI, q_shlI, q_shrI, q_addLtt, q_addLot, q_addLoo, q_neg, q_eq, q_ne, q_eqI, q_eqS, q_eqB, q_eqIB, q_eqBI, q_eqT, q_eqSI, q_eqIS, q_eqIT, q_eqTI, q_eqNI, q_eqIN, q_is, q_isnt, q_isNnon, q_isNint, q_isNbl, q_isNstr, q_isNtup, q_isNref, q_lt, q_gt, q_le, q_leT, q_ge, q_in, q_notin, q_trN, q_trB, q_trI, q_trT, q_trS, q_asB, q_subT, q_subR, q_subO, q_subM, q_nodeO, q_nodeR, q_nodeM, q_cutT, q_cutR, q_revT, q_intOf, q_lstR, q_lstM, q_lstO, q_lenT, q_lenS, q_lenR, q_lenO, q_lenM, q_abs, q_intI, q_intB, q_allM, q_anyM, q_sumM, q_tupT, q_tupM, q_tupO, q_tupR, q_listT, q_listM, q_listR, q_listO, q_isi, q_tyN, q_tyB, q_tyI, q_tyS, q_tyT, q_tyR, q_metOk, q_append, q_pop, q_popI, q_setO, q_setR, q_putO, q_walkT, q_walkM, q_walkR, q_walkO, q_setN, q_setM, q_setV, q_setlO, q_rng1, q_rng2, q_settV, q_settT, q_settO, q_opdV, q_opdN, q_addO, q_appL, q_popL, q_sortT, q_sortM, q_sortR, q_sortO, q_sset, q_max, q_min, q_mulT, q_cutO, q_cutM, q_enT, q_enM, q_inIT, q_inTT, q_inIR, q_eqMM, q_extend, q_insert, q_extL, q_insL, q_allO, q_allR, q_anyO, q_anyR, q_sumO, q_sumR, gc_same, holdsW, -List.filter_eq_nil_iff]
      rw [← all_cnt (fun t => decide (a ∈ t)) (fun t => decide (b ∈ t)) w]
      rw [Bool.eq_iff_iff]
      simp only [beq_iff_eq, decide_eq_true_eq]
      constructor
      · intro z; exact List.length_eq_zero_iff.mp (by omega)
      · intro z; rw [z]; rfl
  | som a b =>
    simp [irLHolds, Sen.d, fn_mkF, semSs, semS, sems, sem, mean, ok_seq, ok_thenN, ok_drop, ok_mRet, ok_mPar, ok_bind', ok_bind, ok_pure, ok_pure', ok_val, ok_tmp, ok_bl, ok_ite, ok_call, ok_lc, ok_lc2, ok_op2, ok_cmp, ok_truth, ok_subO, ok_cutO, ok_revO, ok_negO, ok_intOf, ok_bi, ok_meth, ok_metOk, ok_putO, ok_isi, ok_mVar, ok_toD, ok_stO, ok_rvO, ok_asB, ok_settle, ok_mRng, ok_walkO, ok_enumO, ok_ssetO, ok_put, ok_putT, ok_puts0, ok_putsC, ok_setNode, ok_mDs0, ok_mDsC, ok_mOs0, ok_mOsC, ok_mPart0, ok_mPart1, ok_mIfs0, ok_mIfsC, okM_ok, okM_stuck, okM_exc, okM_ite, Ty.below, atI_nat, atI_0, atI_1, atI_2, atI_3, atI_4, atI_5, atI_6, atI_7, atI_last, q_dII, q_dSS, q_dBB, q_dNN, q_dTT, q_dNI, q_dIN, q_dSI, q_dIS, q_dIT, q_dTI, q_dNT, q_dTN, q_dST, q_dTS, q_ds0, q_dsC, q_dsL, q_dsR, q_fI, q_fB, q_fN, q_fT, q_fS, q_f0, q_fC, q_mVar, q_toDv, q_toDt, q_toDo, q_stOv, q_stOt, q_stOo, q_rvOv, q_rvOt, q_rvOo, q_put, q_addI, q_addT, q_addS, q_subI, q_mulI, q_fdivI, q_modI, q_powI, q_shlI, q_shrI, q_addLtt, q_addLot, q_addLoo, q_neg, q_eq, q_ne, q_eqI, q_eqS, q_eqB, q_eqIB, q_eqBI, q_eqT, q_eqSI, q_eqIS, q_eqIT, q_eqTI, q_eqNI, q_eqIN, q_is, q_isnt, q_isNnon, q_isNint, q_isNbl, q_isNstr, q_isNtup, q_isNref, q_lt, q_gt, q_le, q_leT, q_ge, q_in, q_notin, q_trN, q_trB, q_trI, q_trT, q_trS, q_asB, q_subT, q_subR, q_subO, q_subM, q_nodeO, q_nodeR, q_nodeM, q_cutT, q_cutR, q_revT, q_intOf, q_lstR, q_lstM, q_lstO, q_lenT, q_lenS, q_lenR, q_lenO, q_lenM, q_abs, q_intI, q_intB, q_allM, q_anyM, q_sumM, q_tupT, q_tupM, q_tupO, q_tupR, q_listT, q_listM, q_listR, q_listO, q_isi, q_tyN, q_tyB, q_tyI, q_tyS, q_tyT, q_tyR, q_metOk, q_append, q_pop, q_popI, q_setO, q_setR, q_putO, q_walkT, q_walkM, q_walkR, q_walkO, q_setN, q_setM, q_setV, q_setlO, q_rng1, q_rng2, q_settV, q_settT, q_settO, q_opdV, q_opdN, q_addO, q_appL, q_popL, q_sortT, q_sortM, q_sortR, q_sortO, q_sset, q_max, q_min, q_mulT, q_cutO, q_cutM, q_enT, q_enM, q_inIT, q_inTT, q_inIR, q_eqMM, q_extend, q_insert, q_extL, q_insL, q_allO, q_allR, q_anyO, q_anyR, q_sumO, q_sumR, gc_same, -beq_iff_eq, -beq_eq_false_iff_ne, str1, cut2, wipe, e1]
    refine ok_lc_pure (w := ⟨wsD w, live⟩) (own := [4]) (sl := [.val d, .val (.tup [.str "some", .int a, .int b]), .val (.str "some"), .val (.int a), .unset]) (pick (fun t => decide (a ∈ t) && decide (b ∈ t)) tD) (e2 _) (by rw [ws_len]; exact hl) (fun x hx => ?_) ?_
    · obtain ⟨t, ht, rfl⟩ := List.mem_map.mp hx
      rw [pick_t]
      have ef := flat_ints 60 t
      have ea := any_ints a t
      have ea2 := any_ints b t
      by_cases hi : a ∈ t
      · by_cases hj : b ∈ t
        · simp [wipe, tD, fn_mkF, semSs, semS, sems, sem, mean, ok_seq, ok_thenN, ok_drop, ok_mRet, ok_mPar, ok_bind', ok_bind, ok_pure, ok_pure', ok_val, ok_tmp, ok_bl, ok_ite, ok_call, ok_lc, ok_lc2, ok_op2, ok_cmp, ok_truth, ok_subO, ok_cutO, ok_revO, ok_negO, ok_intOf, ok_bi, ok_meth, ok_metOk, ok_putO, ok_isi, ok_mVar, ok_toD, ok_stO, ok_rvO, ok_asB, ok_settle, ok_mRng, ok_walkO, ok_enumO, ok_ssetO, ok_put, ok_putT, ok_puts0, ok_putsC, ok_setNode, ok_mDs0, ok_mDsC, ok_mOs0, ok_mOsC, ok_mPart0, ok_mPart1, ok_mIfs0, ok_mIfsC, okM_ok, okM_stuck, okM_exc, okM_ite, Ty.below, atI_nat, atI_0, atI_1, atI_2, atI_3, atI_4, atI_5, atI_6, atI_7, atI_last, q_dII, q_dSS, q_dBB, q_dNN, q_dTT, q_dNI, q_dIN, q_dSI, q_dIS, q_dIT, q_dTI, q_dNT, q_dTN, q_dST, q_dTS, q_ds0, q_dsC, q_dsL, q_dsR, q_fI, q_fB, q_fN, q_fT, q_fS, q_f0, q_fC, q_mVar, q_toDv, q_toDt, q_toDo, q_stOv, q_stOt, q_stOo, q_rvOv, q_rvOt, q_rvOo, q_put, q_addI, q_addT, q_addS, q_subI, q_mulI, q_fdivI, q_modI, q_powI, q_shlI, q_shrI, q_addLtt, q_addLot, q_addLoo, q_neg, q_eq, q_ne, q_eqI, q_eqS, q_eqB, q_eqIB, q_eqBI, q_eqT, q_eqSI, q_eqIS, q_eqIT, q_eqTI, q_eqNI, q_eqIN, q_is, q_isnt, q_isNnon, q_isNint, q_isNbl, q_isNstr, q_isNtup, q_isNref, q_lt, q_gt, q_le, q_leT, q_ge, q_in, q_notin, q_trN, q_trB, q_trI, q_trT, q_trS, q_asB, q_subT, q_subR, q_subO, q_subM, q_nodeO, q_nodeR, q_nodeM, q_cutT, q_cutR, q_revT, q_intOf, q_lstR, q_lstM, q_lstO, q_lenT, q_lenS, q_lenR, q_lenO, q_lenM, q_abs, q_intI, q_intB, q_allM, q_anyM, q_sumM, q_tupT, q_tupM, q_tupO, q_tupR, q_listT, q_listM, q_listR, q_listO, q_isi, q_tyN, q_tyB, q_tyI, q_tyS, q_tyT, q_tyR, q_metOk, q_append, q_pop, q_popI, q_setO, q_setR, q_putO, q_walkT, q_walkM, q_walkR, q_walkO, q_setN, q_setM, q_setV, q_setlO, q_rng1, q_rng2, q_settV, q_settT, q_settO, q_opdV, q_opdN, q_addO, q_appL, q_popL, q_sortT, q_sortM, q_sortR, q_sortO, q_sset, q_max, q_min, q_mulT, q_cutO, q_cutM, q_enT, q_enM, q_inIT, q_inTT, q_inIR, q_eqMM, q_extend, q_insert, q_extL, q_insL, q_allO, q_allR, q_anyO, q_anyR, q_sumO, q_sumR, flat_int_k, ef, ea, ea2, hi, hj]
        · simp [wipe, tD, fn_mkF, semSs, semS, sems, sem, mean, ok_seq, ok_thenN, ok_drop, ok_mRet, ok_mPar, ok_bind', ok_bind, ok_pure, ok_pure', ok_val, ok_tmp, ok_bl, ok_ite, ok_call, ok_lc, ok_lc2, ok_op2, ok_cmp, ok_truth, ok_subO, ok_cutO, ok_revO, ok_negO, ok_intOf, ok_bi, ok_meth, ok_metOk, ok_putO, ok_isi, ok_mVar, ok_toD, ok_stO, ok_rvO, ok_asB, ok_settle, ok_mRng, ok_walkO, ok_enumO, ok_ssetO, ok_put, ok_putT, ok_puts0, ok_putsC, ok_setNode, ok_mDs0, ok_mDsC, ok_mOs0, ok_mOsC, ok_mPart0, ok_mPart1, ok_mIfs0, ok_mIfsC, okM_ok, okM_stuck, okM_exc, okM_ite, Ty.below, atI_nat, atI_0, atI_1, atI_2, atI_3, atI_4, atI_5, atI_6, atI_7, atI_last, q_dII, q_dSS, q_dBB, q_dNN, q_dTT, q_dNI, q_dIN, q_dSI, q_dIS, q_dIT, q_dTI, q_dNT, q_dTN, q_dST, q_dTS, q_ds0, q_dsC, q_dsL, q_dsR, q_fI, q_fB, q_fN, q_fT, q_fS, q_f0, q_fC, q_mVar, q_toDv, q_toDt, q_toDo, q_stOv, q_stOt, q_stOo, q_rvOv, q_rvOt, q_rvOo, q_put, q_addI, q_addT, q_addS, q_subI, q_mulI, q_fdivI, q_modI, q_powI, q_shlI, q_shrI, q_addLtt, q_addLot, q_addLoo, q_neg, q_eq, q_ne, q_eqI, q_eqS, q_eqB, q_eqIB, q_eqBI, q_eqT, q_eqSI, q_eqIS, q_eqIT, q_eqTI, q_eqNI, q_eqIN, q_is, q_isnt, q_isNnon, q_isNint, q_isNbl, q_isNstr, q_isNtup, q_isNref, q_lt, q_gt, q_le, q_leT, q_ge, q_in, q_notin, q_trN, q_trB, q_trI, q_trT, q_trS, q_asB, q_subT, q_subR, q_subO, q_subM, q_nodeO, q_nodeR, q_nodeM, q_cutT, q_cutR, q_revT, q_intOf, q_lstR, q_lstM, q_lstO, q_lenT, q_lenS, q_lenR, q_lenO, q_lenM, q_abs, q_intI, q_intB, q_allM, q_anyM, q_sumM, q_tupT, q_tupM, q_tupO, q_tupR, q_listT, q_listM, q_listR, q_listO, q_isi, q_tyN, q_tyB, q_tyI, q_tyS, q_tyT, q_tyR, q_metOk, q_append, q_pop, q_popI, q_setO, q_setR, q_putO, q_walkT, q_walkM, q_walkR, q_walkO, q_setN, q_setM, q_setV, q_setlO, q_rng1, q_rng2, q_settV, q_settT, q_settO, q_opdV, q_opdN, q_addO, q_appL, q_popL, q_sortT, q_sortM, q_sortR, q_sortO, q_sset, q_max, q_min, q_mulT, q_cutO, q_cutM, q_enT, q_enM, q_inIT, q_inTT, q_inIR, q_eqMM, q_extend, q_insert, q_extL, q_insL, q_allO, q_allR, q_anyO, q_anyR, q_sumO, q_sumR, flat_int_k, ef, ea, ea2, hi, hj]
      · simp [wipe, tD, fn_mkF, semSs, semS, sems, sem, mean, ok_seq, ok_thenN, ok_drop, ok_mRet, ok_mPar, ok_bind', ok_bind, ok_pure, ok_pure', ok_val, ok_tmp, ok_bl, ok_ite, ok_call, ok_lc, ok_lc2, ok_op2, ok_cmp, ok_truth, ok_subO, ok_cutO, ok_revO, ok_negO, ok_intOf, ok_bi, ok_meth, ok_metOk, ok_putO, ok_isi, ok_mVar, ok_toD, ok_stO, ok_rvO, ok_asB, ok_settle, ok_mRng, ok_walkO, ok_enumO, ok_ssetO, ok_put, ok_putT, ok_puts0, ok_putsC, ok_setNode, ok_mDs0, ok_mDsC, ok_mOs0, ok_mOsC, ok_mPart0, ok_mPart1, ok_mIfs0, ok_mIfsC, okM_ok, okM_stuck, okM_exc, okM_ite, Ty.below, atI_nat, atI_0, atI_1, atI_2, atI_3, atI_4, atI_5, atI_6, atI_7, atI_last, q_dII, q_dSS, q_dBB, q_dNN, q_dTT, q_dNI, q_dIN, q_dSI, q_dIS, q_dIT, q_dTI, q_dNT, q_dTN, q_dST, q_dTS, q_ds0, q_dsC, q_dsL, q_dsR, q_fI, q_fB, q_fN, q_fT, q_fS, q_f0, q_fC, q_mVar, q_toDv, q_toDt, q_toDo, q_stOv, q_stOt, q_stOo, q_rvOv, q_rvOt, q_rvOo, q_put, q_addI, q_addT, q_addS, q_subI, q_mulI, q_fdivI, q_modI, q_powI, q_shlI, q_shrI, q_addLtt, q_addLot, q_addLoo, q_neg, q_eq, q_ne, q_eqI, q_eqS, q_eqB, q_eqIB, q_eqBI, q_eqT, q_eqSI, q_eqIS, q_eqIT, q_eqTI, q_eqNI, q_eqIN, q_is, q_isnt, q_isNnon, q_isNint, q_isNbl, q_isNstr, q_isNtup, q_isNref, q_lt, q_gt, q_le, q_leT, q_ge, q_in, q_notin, q_trN, q_trB, q_trI, q_trT, q_trS, q_asB, q_subT, q_subR, q_subO, q_subM, q_nodeO, q_nodeR, q_nodeM, q_cutT, q_cutR, q_revT, q_intOf, q_lstR, q_lstM, q_lstO, q_lenT, q_lenS, q_lenR, q_lenO, q_lenM, q_abs, q_intI, q_intB, q_allM, q_anyM, q_sumM, q_tupT, q_tupM, q_tupO, q_tupR, q_listT, q_listM, q_listR, q_listO, q_isi, q_tyN, q_tyB, q_tyI, q_tyS, q_tyT, q_tyR, q_metOk, q_append, q_pop, q_popI, q_setO, q_setR, q_putO, q_walkT, q_walkM, q_walkR, q_walkO, q_setN, q_setM, q_setV, q_setlO, q_rng1, q_rng2, q_settV, q_settT, q_settO, q_opdV, q_opdN, q_addO, q_appL, q_popL, q_sortT, q_sortM, q_sortR, q_sortO, q_sset, q_max, q_min, q_mulT, q_cutO, q_cutM, q_enT, q_enM, q_inIT, q_inTT, q_inIR, q_eqMM, q_extend, q_insert, q_extL, q_insL, q_allO, q_allR, q_anyO, q_anyR, q_sumO, q_sumR, flat_int_k, ef, ea, hi]
    · rw [pick_ws]
      simp [wipe, unwipe, fn_mkF, semSs, semS, sems, sem, mean, ok_seq, ok_thenN, ok_drop, ok_mRet, ok_mPar, ok_bind', ok_bind, ok_pure, ok_pure', ok_val, ok_tmp, ok_bl, ok_ite, ok_call, ok_lc, ok_lc2, ok_op2, ok_cmp, ok_truth, ok_subO, ok_cutO, ok_revO, ok_negO, ok_intOf, ok_bi, ok_meth, ok_metOk, ok_putO, ok_isi, ok_mVar, ok_toD, ok_stO, ok_rvO, ok_asB, ok_settle, ok_mRng, ok_walkO, ok_enumO, ok_ssetO, ok_put, ok_putT, ok_puts0, ok_putsC, ok_setNode, ok_mDs0, ok_mDsC, ok_mOs0, ok_mOsC, ok_mPart0, ok_mPart1, ok_mIfs0, ok_mIfsC, okM_ok, okM_stuck, okM_exc, okM_ite, Ty.below, atI_nat, atI_0, atI_1, atI_2, atI_3, atI_4, atI_5, atI_6, atI_7, atI_last, q_dII, q_dSS, q_dBB, q_dNN, q_dTT, q_dNI, q_dIN, q_dSI, q_dIS, q_dIT, q_dTI, q_dNT, q_dTN, q_dST, q_dTS, q_ds0, q_dsC, q_dsL, q_dsR, q_fI, q_fB, q_fN, q_fT, q_fS, q_f0, q_fC, q_mVar, q_toDv, q_toDt, q_toDo, q_stOv, q_stOt, q_stOo, q_rvOv, q_rvOt, q_rvOo, q_put, q_addI, q_addT, q_addS, q_subI, q_mulI, q_fdivI, q_modI, q_powI, q_shlI, q_shrI, q_addLtt, q_addLot, q_addLoo, q_neg, q_eq, q_ne, q_eqI, q_eqS, q_eqB, q_eqIB, q_eqBI, q_eqT, q_eqSI, q_eqIS, q_eqIT, q_eqTI, q_eqNI, q_eqIN, q_is, q_isnt, q_isNnon, q_isNint, q_isNbl, q_isNstr, q_isNtup, q_isNref, q_lt, q_gt, q_le, q_leT, q_ge, q_in, q_notin, q_trN, q_trB, q_trI, q_trT, q_trS, q_asB, q_subT, q_subR, q_subO, q_subM, q_nodeO, q_nodeR, q_nodeM, q_cutT, q_cutR, q_revT, q_intOf, q_lstR, q_lstM, q_lstO, q_lenT, q_lenS, q_lenR, q_lenO, q_lenM, q_abs, q_intI, q_intB, q_allM, q_anyM, q_sumM, q_tupT, q_tupM, q_tupO, q_tupR, q_listT, q_listM, q_listR, q_listO, q_isi, q_tyN, q_tyB, q_tyI, q_tyS, q_tyT, q_tyR, q_metOk, q_append, q_pop, q_popI, q_setO, q_setR, q_putO, q_walkT, q_walkM, q_walkR, q_walkO, q_setN, q_setM, q_setV, q_setlO, q_rng1, q_rng2, q_settV, q_settT, q_settO, q_opdV, q_opdN, q_addO, q_appL, q_popL, q_sortT, q_sortM, q_sortR, q_sortO, q_sset, q_max, q_min, q_mulT, q_cutO, q_cutM, q_enT, q_enM, q_inIT, q_inTT, q_inIR, q_eqMM, q_extend, q_insert, q_extL, q_insL, q_allO, q_allR, q_anyO, q_anyR, q_sumO, q_sumR, gc_same, holdsW, -List.filter_eq_nil_iff]
      rw [← any_cnt (fun t => decide (a ∈ t)) (fun t => decide (b ∈ t)) w]
      rw [Bool.eq_iff_iff]
      simp
def GoodSp (f : FnD) : Prop := ∀ (names : List D) (ss : List Sen) (w : List (List Int)) (d : D) (h : List Node), SeqD d h (wsD w) → w.length ≤ lim → ss.length ≤ lim → f [bk names ss, d] h = .ret (.val (.bl (ss.all (holdsW w)))) h
def irGood : ISs := (.cons (.ret (.cmp .eq (.bi .len (.cons (.lc [2] (.var 2) (.name 2) (.sub (.var 0) (.int 1)) (.cons (.not (.call 1117 (.cons (.var 1) (.cons (.var 2) .nil)))) .nil)) .nil)) (.int 0)))
  .nil)
theorem good_sp {T : Tb} (ho : HoldsSp (T.fn 1117)) : GoodSp (mkF 3 (semSs T irGood)) := by
  intro names ss w d h hs hl hl2
  apply fn_eq
  simp [irGood, bk, fn_mkF, semSs, semS, sems, sem, mean, ok_seq, ok_thenN, ok_drop, ok_mRet, ok_mPar, ok_bind', ok_bind, ok_pure, ok_pure', ok_val, ok_tmp, ok_bl, ok_ite, ok_call, ok_lc, ok_lc2, ok_op2, ok_cmp, ok_truth, ok_subO, ok_cutO, ok_revO, ok_negO, ok_intOf, ok_bi, ok_meth, ok_metOk, ok_putO, ok_isi, ok_mVar, ok_toD, ok_stO, ok_rvO, ok_asB, ok_settle, ok_mRng, ok_walkO, ok_enumO, ok_ssetO, ok_put, ok_putT, ok_puts0, ok_putsC, ok_setNode, ok_mDs0, ok_mDsC, ok_mOs0, ok_mOsC, ok_mPart0, ok_mPart1, ok_mIfs0, ok_mIfsC, okM_ok, okM_stuck, okM_exc, okM_ite, Ty.below, atI_nat, atI_0, atI_1, atI_2, atI_3, atI_4, atI_5, atI_6, atI_7, atI_last, q_dII, q_dSS, q_dBB, q_dNN, q_dTT, q_dNI, q_dIN, q_dSI, q_dIS, q_dIT, q_dTI, q_dNT, q_dTN, q_dST, q_dTS, q_ds0, q_dsC, q_dsL, q_dsR, q_fI, q_fB, q_fN, q_fT, q_fS, q_f0, q_fC, q_mVar, q_toDv, q_toDt, q_toDo, q_stOv, q_stOt, q_stOo, q_rvOv, q_rvOt, q_rvOo, q_put, q_addI, q_addT, q_addS, q_subI, q_mulI, q_fdivI, q_modI, q_powI, q_shlI, q_shrI, q_addLtt, q_addLot, q_addLoo, q_neg, q_eq, q_ne, q_eqI, q_eqS, q_eqB, q_eqIB, q_eqBI, q_eqT, q_eqSI, q_eqIS, q_eqIT, q_eqTI, q_eqNI, q_eqIN, q_is, q_isnt, q_isNnon, q_isNint, q_isNbl, q_isNstr, q_isNtup, q_isNref, q_lt, q_gt, q_le, q_leT, q_ge, q_in, q_notin, q_trN, q_trB, q_trI, q_trT, q_trS, q_asB, q_subT, q_subR, q_subO, q_subM, q_nodeO, q_nodeR, q_nodeM, q_cutT, q_cutR, q_revT, q_intOf, q_lstR, q_lstM, q_lstO, q_lenT, q_lenS, q_lenR, q_lenO, q_lenM, q_abs, q_intI, q_intB, q_allM, q_anyM, q_sumM, q_tupT, q_tupM, q_tupO, q_tupR, q_listT, q_listM, q_listR, q_listO, q_isi, q_tyN, q_tyB, q_tyI, q_tyS, q_tyT, q_tyR, q_metOk, q_append, q_pop, q_popI, q_setO, q_setR, q_putO, q_walkT, q_walkM, q_walkR, q_walkO, q_setN, q_setM, q_setV, q_setlO, q_rng1, q_rng2, q_settV, q_settT, q_settO, q_opdV, q_opdN, q_addO, q_appL, q_popL, q_sortT, q_sortM, q_sortR, q_sortO, q_sset, q_max, q_min, q_mulT, q_cutO, q_cutM, q_enT, q_enM, q_inIT, q_inTT, q_inIR, q_eqMM, q_extend, q_insert, q_extL, q_insL, q_allO, q_allR, q_anyO, q_anyR, q_sumO, q_sumR, gc_same, wipe]
  refine ok_lc_of ss Sen.d (fun s => if holdsW w s = true then none else some s.d) (w := ⟨ss.map Sen.d, none⟩) (own := [2]) (sl := [.val (.tup [.tup names, .tup (ss.map Sen.d)]), .val d, .unset]) rfl rfl hl2 (fun s hs' => ?_) ?_
  · by_cases hh : holdsW w s = true
    · simp [wipe, fn_mkF, semSs, semS, sems, sem, mean, ok_seq, ok_thenN, ok_drop, ok_mRet, ok_mPar, ok_bind', ok_bind, ok_pure, ok_pure', ok_val, ok_tmp, ok_bl, ok_ite, ok_call, ok_lc, ok_lc2, ok_op2, ok_cmp, ok_truth, ok_subO, ok_cutO, ok_revO, ok_negO, ok_intOf, ok_bi, ok_meth, ok_metOk, ok_putO, ok_isi, ok_mVar, ok_toD, ok_stO, ok_rvO, ok_asB, ok_settle, ok_mRng, ok_walkO, ok_enumO, ok_ssetO, ok_put, ok_putT, ok_puts0, ok_putsC, ok_setNode, ok_mDs0, ok_mDsC, ok_mOs0, ok_mOsC, ok_mPart0, ok_mPart1, ok_mIfs0, ok_mIfsC, okM_ok, okM_stuck, okM_exc, okM_ite, Ty.below, atI_nat, atI_0, atI_1, atI_2, atI_3, atI_4, atI_5, atI_6, atI_7, atI_last, q_dII, q_dSS, q_dBB, q_dNN, q_dTT, q_dNI, q_dIN, q_dSI, q_dIS, q_dIT, q_dTI, q_dNT, q_dTN, q_dST, q_dTS, q_ds0, q_dsC, q_dsL, q_dsR, q_fI, q_fB, q_fN, q_fT, q_fS, q_f0, q_fC, q_mVar, q_toDv, q_toDt, q_toDo, q_stOv, q_stOt, q_stOo, q_rvOv, q_rvOt, q_rvOo, q_put, q_addI, q_addT, q_addS, q_subI, q_mulI, q_fdivI, q_modI, q_powI, q_shlI, q_shrI, q_addLtt, q_addLot, q_addLoo, q_neg, q_eq, q_ne, q_eqI, q_eqS, q_eqB, q_eqIB, q_eqBI, q_eqT, q_eqSI, q_eqIS, q_eqIT, q_eqTI, q_eqNI, q_eqIN, q_is, q_isnt, q_isNnon, q_isNint, q_isNbl, q_isNstr, q_isNtup, q_isNref, q_lt, q_gt, q_le, q_leT, q_ge, q_in, q_notin, q_trN, q_trB, q_trI, q_trT, q_trS, q_asB, q_subT, q_subR, q_subO, q_subM, q_nodeO, q_nodeR, q_nodeM, q_cutT, q_cutR, q_revT, q_intOf, q_lstR, q_lstM, q_lstO, q_lenT, q_lenS, q_lenR, q_lenO, q_lenM, q_abs, q_intI, q_intB, q_allM, q_anyM, q_sumM, q_tupT, q_tupM, q_tupO, q_tupR, q_listT, q_listM, q_listR, q_listO, q_isi, q_tyN, q_tyB, q_tyI, q_tyS, q_tyT, q_tyR, q_metOk, q_append, q_pop, q_popI, q_setO, q_setR, q_putO, q_walkT, q_walkM, q_walkR, q_walkO, q_setN, q_setM, q_setV, q_setlO, q_rng1, q_rng2, q_settV, q_settT, q_settO, q_opdV, q_opdN, q_addO, q_appL, q_popL, q_sortT, q_sortM, q_sortR, q_sortO, q_sset, q_max, q_min, q_mulT, q_cutO, q_cutM, q_enT, q_enM, q_inIT, q_inTT, q_inIR, q_eqMM, q_extend, q_insert, q_extL, q_insL, q_allO, q_allR, q_anyO, q_anyR, q_sumO, q_sumR, fn_ret (ho w s d h hs hl), hh]
    · simp [wipe, fn_mkF, semSs, semS, sems, sem, mean, ok_seq, ok_thenN, ok_drop, ok_mRet, ok_mPar, ok_bind', ok_bind, ok_pure, ok_pure', ok_val, ok_tmp, ok_bl, ok_ite, ok_call, ok_lc, ok_lc2, ok_op2, ok_cmp, ok_truth, ok_subO, ok_cutO, ok_revO, ok_negO, ok_intOf, ok_bi, ok_meth, ok_metOk, ok_putO, ok_isi, ok_mVar, ok_toD, ok_stO, ok_rvO, ok_asB, ok_settle, ok_mRng, ok_walkO, ok_enumO, ok_ssetO, ok_put, ok_putT, ok_puts0, ok_putsC, ok_setNode, ok_mDs0, ok_mDsC, ok_mOs0, ok_mOsC, ok_mPart0, ok_mPart1, ok_mIfs0, ok_mIfsC, okM_ok, okM_stuck, okM_exc, okM_ite, Ty.below, atI_nat, atI_0, atI_1, atI_2, atI_3, atI_4, atI_5, atI_6, atI_7, atI_last, q_dII, q_dSS, q_dBB, q_dNN, q_dTT, q_dNI, q_dIN, q_dSI, q_dIS, q_dIT, q_dTI, q_dNT, q_dTN, q_dST, q_dTS, q_ds0, q_dsC, q_dsL, q_dsR, q_fI, q_fB, q_fN, q_fT, q_fS, q_f0, q_fC, q_mVar, q_toDv, q_toDt, q_toDo, q_stOv, q_stOt, q_stOo, q_rvOv, q_rvOt, q_rvOo, q_put, q_addI, q_addT, q_addS, q_subI, q_mulI, q_fdivI, q_modI, q_powI, q_shlI, q_shrI, q_addLtt, q_addLot, q_addLoo, q_neg, q_eq, q_ne, q_eqI, q_eqS, q_eqB, q_eqIB, q_eqBI, q_eqT, q_eqSI, q_eqIS, q_eqIT, q_eqTI, q_eqNI, q_eqIN, q_is, q_isnt, q_isNnon, q_isNint, q_isNbl, q_isNstr, q_isNtup, q_isNref, q_lt, q_gt, q_le, q_leT, q_ge, q_in, q_notin, q_trN, q_trB, q_trI, q_trT, q_trS, q_asB, q_subT, q_subR, q_subO, q_subM, q_nodeO, q_nodeR, q_nodeM, q_cutT, q_cutR, q_revT, q_intOf, q_lstR, q_lstM, q_lstO, q_lenT, q_lenS, q_lenR, q_lenO, q_lenM, q_abs, q_intI, q_intB, q_allM, q_anyM, q_sumM, q_tupT, q_tupM, q_tupO, q_tupR, q_listT, q_listM, q_listR, q_listO, q_isi, q_tyN, q_tyB, q_tyI, q_tyS, q_tyT, q_tyR, q_metOk, q_append, q_pop, q_popI, q_setO, q_setR, q_putO, q_walkT, q_walkM, q_walkR, q_walkO, q_setN, q_setM, q_setV, q_setlO, q_rng1, q_rng2, q_settV, q_settT, q_settO, q_opdV, q_opdN, q_addO, q_appL, q_popL, q_sortT, q_sortM, q_sortR, q_sortO, q_sset, q_max, q_min, q_mulT, q_cutO, q_cutM, q_enT, q_enM, q_inIT, q_inTT, q_inIR, q_eqMM, q_extend, q_insert, q_extL, q_insL, q_allO, q_allR, q_anyO, q_anyR, q_sumO, q_sumR, fn_ret (ho w s d h hs hl), hh]
  · rw [← none_all (holdsW w) Sen.d ss]
    generalize (ss.filterMap fun a => if holdsW w a = true then none else some a.d) = xs
    cases xs with
    | nil => simp [wipe, unwipe, fn_mkF, semSs, semS, sems, sem, mean, ok_seq, ok_thenN, ok_drop, ok_mRet, ok_mPar, ok_bind', ok_bind, ok_pure, ok_pure', ok_val, ok_tmp, ok_bl, ok_ite, ok_call, ok_lc, ok_lc2, ok_op2, ok_cmp, ok_truth, ok_subO, ok_cutO, ok_revO, ok_negO, ok_intOf, ok_bi, ok_meth, ok_metOk, ok_putO, ok_isi, ok_mVar, ok_toD, ok_stO, ok_rvO, ok_asB, ok_settle, ok_mRng, ok_walkO, ok_enumO, ok_ssetO, ok_put, ok_putT, ok_puts0, ok_putsC, ok_setNode, ok_mDs0, ok_mDsC, ok_mOs0, ok_mOsC, ok_mPart0, ok_mPart1, ok_mIfs0, ok_mIfsC, okM_ok, okM_stuck, okM_exc, okM_ite, Ty.below, atI_nat, atI_0, atI_1, atI_2, atI_3, atI_4, atI_5, atI_6, atI_7, atI_last, q_dII, q_dSS, q_dBB, q_dNN, q_dTT, q_dNI, q_dIN, q_dSI, q_dIS, q_dIT, q_dTI, q_dNT, q_dTN, q_dST, q_dTS, q_ds0, q_dsC, q_dsL, q_dsR, q_fI, q_fB, q_fN, q_fT, q_fS, q_f0, q_fC, q_mVar, q_toDv, q_toDt, q_toDo, q_stOv, q_stOt, q_stOo, q_rvOv, q_rvOt, q_rvOo, q_put, q_addI, q_addT, q_addS, q_subI, q_mulI, q_fdivI, q_modI, q_powI, q_shlI, q_shrI, q_addLtt, q_addLot, q_addLoo, q_neg, q_eq, q_ne, q_eqI, q_eqS, q_eqB, q_eqIB, q_eqBI, q_eqT, q_eqSI, q_eqIS, q_eqIT, q_eqTI, q_eqNI, q_eqIN, q_is, q_isnt, q_isNnon, q_isNint, q_isNbl, q_isNstr, q_isNtup, q_isNref, q_lt, q_gt, q_le, q_leT, q_ge, q_in, q_notin, q_trN, q_trB, q_trI, q_trT, q_trS, q_asB, q_subT, q_subR, q_subO, q_subM, q_nodeO, q_nodeR, q_nodeM, q_cutT, q_cutR, q_revT, q_intOf, q_lstR, q_lstM, q_lstO, q_lenT, q_lenS, q_lenR, q_lenO, q_lenM, q_abs, q_intI, q_intB, q_allM, q_anyM, q_sumM, q_tupT, q_tupM, q_tupO, q_tupR, q_listT, q_listM, q_listR, q_listO, q_isi, q_tyN, q_tyB, q_tyI, q_tyS, q_tyT, q_tyR, q_metOk, q_append, q_pop, q_popI, q_setO, q_setR, q_putO, q_walkT, q_walkM, q_walkR, q_walkO, q_setN, q_setM, q_setV, q_setlO, q_rng1, q_rng2, q_settV, q_settT, q_settO, q_opdV, q_opdN, q_addO, q_appL, q_popL, q_sortT, q_sortM, q_sortR, q_sortO, q_sset, q_max, q_min, q_mulT, q_cutO, q_cutM, q_enT, q_enM, q_inIT, q_inTT, q_inIR, q_eqMM, q_extend, q_insert, q_extL, q_insL, q_allO, q_allR, q_anyO, q_anyR, q_sumO, q_sumR, gc_same]
    | cons x xs =>
      simp [wipe, unwipe, fn_mkF, semSs, semS, sems, sem, mean, ok_seq, ok_thenN, ok_drop, ok_mRet, ok_mPar, ok_bind', ok_bind, ok_pure, ok_pure', ok_val, ok_tmp, ok_bl, ok_ite, ok_call, ok_lc, ok_lc2, ok_op2, ok_cmp, ok_truth, ok_subO, ok_cutO, ok_revO, ok_negO, ok_intOf, ok_bi, ok_meth, ok_metOk, ok_putO, ok_isi, ok_mVar, ok_toD, ok_stO, ok_rvO, ok_asB, ok_settle, ok_mRng, ok_walkO, ok_enumO, ok_ssetO, ok_put, ok_putT, ok_puts0, ok_putsC, ok_setNode, ok_mDs0, ok_mDsC, ok_mOs0, ok_mOsC, ok_mPart0, ok_mPart1, ok_mIfs0, ok_mIfsC, okM_ok, okM_stuck, okM_exc, okM_ite, Ty.below, atI_nat, atI_0, atI_1, atI_2, atI_3, atI_4, atI_5, atI_6, atI_7, atI_last, q_dII, q_dSS, q_dBB, q_dNN, q_dTT, q_dNI, q_dIN, q_dSI, q_dIS, q_dIT, q_dTI, q_dNT, q_dTN, q_dST, q_dTS, q_ds0, q_dsC, q_dsL, q_dsR, q_fI, q_fB, q_fN, q_fT, q_fS, q_f0, q_fC, q_mVar, q_toDv, q_toDt, q_toDo, q_stOv, q_stOt, q_stOo, q_rvOv, q_rvOt, q_rvOo, q_put, q_addI, q_addT, q_addS, q_subI, q_mulI, q_fdivI, q_modI, q_powI, q_shlI, q_shrI, q_addLtt, q_addLot, q_addLoo, q_neg, q_eq, q_ne, q_eqI, q_eqS, q_eqB, q_eqIB, q_eqBI, q_eqT, q_eqSI, q_eqIS, q_eqIT, q_eqTI, q_eqNI, q_eqIN, q_is, q_isnt, q_isNnon, q_isNint, q_isNbl, q_isNstr, q_isNtup, q_isNref, q_lt, q_gt, q_le, q_leT, q_ge, q_in, q_notin, q_trN, q_trB, q_trI, q_trT, q_trS, q_asB, q_subT, q_subR, q_subO, q_subM, q_nodeO, q_nodeR, q_nodeM, q_cutT, q_cutR, q_revT, q_intOf, q_lstR, q_lstM, q_lstO, q_lenT, q_lenS, q_lenR, q_lenO, q_lenM, q_abs, q_intI, q_intB, q_allM, q_anyM, q_sumM, q_tupT, q_tupM, q_tupO, q_tupR, q_listT, q_listM, q_listR, q_listO, q_isi, q_tyN, q_tyB, q_tyI, q_tyS, q_tyT, q_tyR, q_metOk, q_append, q_pop, q_popI, q_setO, q_setR, q_putO, q_walkT, q_walkM, q_walkR, q_walkO, q_setN, q_setM, q_setV, q_setlO, q_rng1, q_rng2, q_settV, q_settT, q_settO, q_opdV, q_opdN, q_addO, q_appL, q_popL, q_sortT, q_sortM, q_sortR, q_sortO, q_sset, q_max, q_min, q_mulT, q_cutO, q_cutM, q_enT, q_enM, q_inIT, q_inTT, q_inIR, q_eqMM, q_extend, q_insert, q_extL, q_insL, q_allO, q_allR, q_anyO, q_anyR, q_sumO, q_sumR, gc_same]
      omega
def LThinSp (f : FnD) : Prop := ∀ (names : List D) (ss : List Sen) (w : List (List Int)) (h : List Node), w.length ≤ 1000 → ss.length ≤ lim →
  ∀ {Q : RV → List Node → Prop}, (∀ x, Q (.val (wD (thinGo (fun v => ss.all (holdsW v)) [] w))) (h ++ x)) → Fn f [bk names ss, wD w] h Q
def irLThinned : ISs := (.cons (.set 2 (.bi .list (.cons (.var 1) .nil)))
  (.cons (.set 3 (.int 0))
  (.cons (.fo (.name 4) (.var 1) (.cons (.set 5 (.bin .add (.cut (.var 2) .nil (.cons (.var 3) .nil)) (.cut (.var 2) (.cons (.bin .add (.var 3) (.int 1)) .nil) .nil)))
  (.cons (.ife (.call 1125 (.cons (.var 0) (.cons (.var 5) .nil))) (.cons (.set 2 (.var 5))
  .nil) (.cons (.set 3 (.bin .add (.var 3) (.int 1)))
  .nil))
  .nil)))
  (.cons (.ret (.bi .tuple (.cons (.var 2) .nil)))
  .nil))))
theorem lthinned_sp {T : Tb} (go : GoodSp (T.fn 1125)) : LThinSp (mkF 6 (semSs T irLThinned)) := by
  intro names ss w h hl hl2 Q q
  have hlim := lim_eq
  obtain ⟨b, hb⟩ : ∃ b, b = bk names ss := ⟨_, rfl⟩
  rw [← hb]
  simp [irLThinned, wD, fn_mkF, semSs, semS, sems, sem, mean, ok_seq, ok_thenN, ok_drop, ok_mRet, ok_mPar, ok_bind', ok_bind, ok_pure, ok_pure', ok_val, ok_tmp, ok_bl, ok_ite, ok_call, ok_lc, ok_lc2, ok_op2, ok_cmp, ok_truth, ok_subO, ok_cutO, ok_revO, ok_negO, ok_intOf, ok_bi, ok_meth, ok_metOk, ok_putO, ok_isi, ok_mVar, ok_toD, ok_stO, ok_rvO, ok_asB, ok_settle, ok_mRng, ok_walkO, ok_enumO, ok_ssetO, ok_put, ok_putT, ok_puts0, ok_putsC, ok_setNode, ok_mDs0, ok_mDsC, ok_mOs0, ok_mOsC, ok_mPart0, ok_mPart1, ok_mIfs0, ok_mIfsC, okM_ok, okM_stuck, okM_exc, okM_ite, Ty.below, atI_nat, atI_0, atI_1, atI_2, atI_3, atI_4, atI_5, atI_6, atI_7, atI_last, q_dII, q_dSS, q_dBB, q_dNN, q_dTT, q_dNI, q_dIN, q_dSI, q_dIS, q_dIT, q_dTI, q_dNT, q_dTN, q_dST, q_dTS, q_ds0, q_dsC, q_dsL, q_dsR, q_fI, q_fB, q_fN, q_fT, q_fS, q_f0, q_fC, q_mVar, q_toDv, q_toDt, q_toDo, q_stOv, q_stOt, q_stOo, q_rvOv, q_rvOt, q_rvOo, q_put, q_addI, q_addT, q_addS, q_subI, q_mulI, q_fdivI, q_modI, q_powI, q_shlI, q_shrI, q_addLtt, q_addLot, q_addLoo, q_neg, q_eq, q_ne, q_eqI, q_eqS, q_eqB, q_eqIB, q_eqBI, q_eqT, q_eqSI, q_eqIS, q_eqIT, q_eqTI, q_eqNI, q_eqIN, q_is, q_isnt, q_isNnon, q_isNint, q_isNbl, q_isNstr, q_isNtup, q_isNref, q_lt, q_gt, q_le, q_leT, q_ge, q_in, q_notin, q_trN, q_trB, q_trI, q_trT, q_trS, q_asB, q_subT, q_subR, q_subO, q_subM, q_nodeO, q_nodeR, q_nodeM, q_cutT, q_cutR, q_revT, q_intOf, q_lstR, q_lstM, q_lstO, q_lenT, q_lenS, q_lenR, q_lenO, q_lenM, q_abs, q_intI, q_intB, q_allM, q_anyM, q_sumM, q_tupT, q_tupM, q_tupO, q_tupR, q_listT, q_listM, q_listR, q_listO, q_isi, q_tyN, q_tyB, q_tyI, q_tyS, q_tyT, q_tyR, q_metOk, q_append, q_pop, q_popI, q_setO, q_setR, q_putO, q_walkT, q_walkM, q_walkR, q_walkO, q_setN, q_setM, q_setV, q_setlO, q_rng1, q_rng2, q_settV, q_settT, q_settO, q_opdV, q_opdN, q_addO, q_appL, q_popL, q_sortT, q_sortM, q_sortR, q_sortO, q_sset, q_max, q_min, q_mulT, q_cutO, q_cutM, q_enT, q_enM, q_inIT, q_inTT, q_inIR, q_eqMM, q_extend, q_insert, q_extL, q_insL, q_allO, q_allR, q_anyO, q_anyR, q_sumO, q_sumR]
  obtain ⟨I, hI⟩ : ∃ I : List D → St → Prop, ∀ ds s, I ds s ↔ ∃ (pre post : List (List Int)) (x2 x4 x5 : Slot) (y : List Node), ds.length = post.length ∧ (pre ++ post).length ≤ 1000 ∧ thinGo (fun v => ss.all (holdsW v)) pre post = thinGo (fun v => ss.all (holdsW v)) [] w ∧ Lst x2 (h ++ y) (wsD (pre ++ post)) ∧
      s = ⟨[.val b, .val (.tup (wsD w)), x2, .val (.int pre.length), x4, x5], h ++ y⟩ := ⟨_, fun _ _ => Iff.rfl⟩
  refine ok_for I ?_ ?_ _ _ ((hI _ _).mpr ⟨[], w, _, .unset, .unset, [], ws_len w, by simpa using hl, rfl, .inl rfl, by simp⟩)
  · intro d ds s hs
    obtain ⟨pre, post, x2, x4, x5, y, hn, hlen, ht, hx, rfl⟩ := (hI _ _).mp hs
    refine ⟨same_none, ?_⟩
    cases post with
    | nil => simp at hn
    | cons x post =>
      have hws := ws_len (pre ++ x :: post)
      have h1 := cut_at pre post x
      have h2 := cut_next pre post x
      have hl3 : (pre ++ post).length ≤ 1000 := by simp at hlen ⊢; omega
      have hl4 : (wsD pre).length + (wsD post).length ≤ lim := by rw [ws_len, ws_len]; simp at hl3; omega
      have hnn : ds.length = post.length := by simpa using hn
      have hw := go names ss (pre ++ post) (.ref (h.length + y.length)) (h ++ (y ++ [.lst (wsD pre ++ wsD post)])) (.inr ⟨_, rfl, by rw [ws_app, ← List.append_assoc, ← List.length_append]; simp⟩) (by omega) hl2
      rw [← hb] at hw
      have key : (if ss.all (holdsW (pre ++ post)) = true then
          I ds ⟨[.val b, .val (.tup (wsD w)), .val (.ref (h.length + y.length)), .val (.int pre.length), .val d, .val (.ref (h.length + y.length))], h ++ (y ++ [.lst (wsD pre ++ wsD post)])⟩
          else I ds ⟨[.val b, .val (.tup (wsD w)), x2, .val (.int (pre.length + 1)), .val d, .val (.ref (h.length + y.length))], h ++ (y ++ [.lst (wsD pre ++ wsD post)])⟩) := by
        split
        · rename_i hp
          refine (hI _ _).mpr ⟨pre, post, _, _, _, y ++ [.lst (wsD pre ++ wsD post)], hnn, hl3, ?_, .inr ⟨_, rfl, ?_⟩, rfl⟩
          · rw [← ht]
            simp only [thinGo]
            rw [if_pos hp]
          · rw [ws_app, ← List.append_assoc, ← List.length_append]; simp
        · rename_i hp
          refine (hI _ _).mpr ⟨pre ++ [x], post, x2, .val d, .val (.ref (h.length + y.length)), y ++ [.lst (wsD pre ++ wsD post)], hnn, by simpa using hlen, ?_, by rw [← List.append_assoc]; exact Lst.app (by simpa using hx) _, by simp⟩
          rw [← ht]
          conv => rhs; simp only [thinGo]
          rw [if_neg hp]
      rcases hx with rfl | ⟨l, rfl, e⟩
      · by_cases hp : ss.all (holdsW (pre ++ post)) = true
        · rw [if_pos hp] at key
          simp [fn_mkF, semSs, semS, sems, sem, mean, ok_seq, ok_thenN, ok_drop, ok_mRet, ok_mPar, ok_bind', ok_bind, ok_pure, ok_pure', ok_val, ok_tmp, ok_bl, ok_ite, ok_call, ok_lc, ok_lc2, ok_op2, ok_cmp, ok_truth, ok_subO, ok_cutO, ok_revO, ok_negO, ok_intOf, ok_bi, ok_meth, ok_metOk, ok_putO, ok_isi, ok_mVar, ok_toD, ok_stO, ok_rvO, ok_asB, ok_settle, ok_mRng, ok_walkO, ok_enumO, ok_ssetO, ok_put, ok_putT, ok_puts0, ok_putsC, ok_setNode, ok_mDs0, ok_mDsC, ok_mOs0, ok_mOsC, ok_mPart0, ok_mPart1, ok_mIfs0, ok_mIfsC, okM_ok, okM_stuck, okM_exc, okM_ite, Ty.below, atI_nat, atI_0, atI_1, atI_2, atI_3, atI_4, atI_5, atI_6, atI_7, atI_last, q_dII, q_dSS, q_dBB, q_dNN, q_dTT, q_dNI, q_dIN, q_dSI, q_dIS, q_dIT, q_dTI, q_dNT, q_dTN, q_dST, q_dTS, q_ds0, q_dsC, q_dsL, q_dsR, q_fI, q_fB, q_fN, q_fT, q_fS, q_f0, q_fC, q_mVar, q_toDv, q_toDt, q_toDo, q_stOv, q_stOt, q_stOo, q_rvOv, q_rvOt, q_rvOo, q_put, q_addI, q_addT, q_addS, q_subI, q_mulI, q_fdivI, q_modI, q_powI, q_shlI, q_shrI, q_addLtt, q_addLot, q_addLoo, q_neg, q_eq, q_ne, q_eqI, q_eqS, q_eqB, q_eqIB, q_eqBI, q_eqT, q_eqSI, q_eqIS, q_eqIT, q_eqTI, q_eqNI, q_eqIN, q_is, q_isnt, q_isNnon, q_isNint, q_isNbl, q_isNstr, q_isNtup, q_isNref, q_lt, q_gt, q_le, q_leT, q_ge, q_in, q_notin, q_trN, q_trB, q_trI, q_trT, q_trS, q_asB, q_subT, q_subR, q_subO, q_subM, q_nodeO, q_nodeR, q_nodeM, q_cutT, q_cutR, q_revT, q_intOf, q_lstR, q_lstM, q_lstO, q_lenT, q_lenS, q_lenR, q_lenO, q_lenM, q_abs, q_intI, q_intB, q_allM, q_anyM, q_sumM, q_tupT, q_tupM, q_tupO, q_tupR, q_listT, q_listM, q_listR, q_listO, q_isi, q_tyN, q_tyB, q_tyI, q_tyS, q_tyT, q_tyR, q_metOk, q_append, q_pop, q_popI, q_setO, q_setR, q_putO, q_walkT, q_walkM, q_walkR, q_walkO, q_setN, q_setM, q_setV, q_setlO, q_rng1, q_rng2, q_settV, q_settT, q_settO, q_opdV, q_opdN, q_addO, q_appL, q_popL, q_sortT, q_sortM, q_sortR, q_sortO, q_sset, q_max, q_min, q_mulT, q_cutO, q_cutM, q_enT, q_enM, q_inIT, q_inTT, q_inIR, q_eqMM, q_extend, q_insert, q_extL, q_insL, q_allO, q_allR, q_anyO, q_anyR, q_sumO, q_sumR, hws, h1, h2, hl4, fn_ret hw, hp, -List.all_eq_true]
          simpa using key
        · rw [if_neg hp] at key
          have hp' : ss.all (holdsW (pre ++ post)) = false := by simpa using hp
          simp [fn_mkF, semSs, semS, sems, sem, mean, ok_seq, ok_thenN, ok_drop, ok_mRet, ok_mPar, ok_bind', ok_bind, ok_pure, ok_pure', ok_val, ok_tmp, ok_bl, ok_ite, ok_call, ok_lc, ok_lc2, ok_op2, ok_cmp, ok_truth, ok_subO, ok_cutO, ok_revO, ok_negO, ok_intOf, ok_bi, ok_meth, ok_metOk, ok_putO, ok_isi, ok_mVar, ok_toD, ok_stO, ok_rvO, ok_asB, ok_settle, ok_mRng, ok_walkO, ok_enumO, ok_ssetO, ok_put, ok_putT, ok_puts0, ok_putsC, ok_setNode, ok_mDs0, ok_mDsC, ok_mOs0, ok_mOsC, ok_mPart0, ok_mPart1, ok_mIfs0, ok_mIfsC, okM_ok, okM_stuck, okM_exc, okM_ite, Ty.below, atI_nat, atI_0, atI_1, atI_2, atI_3, atI_4, atI_5, atI_6, atI_7, atI_last, q_dII, q_dSS, q_dBB, q_dNN, q_dTT, q_dNI, q_dIN, q_dSI, q_dIS, q_dIT, q_dTI, q_dNT, q_dTN, q_dST, q_dTS, q_ds0, q_dsC, q_dsL, q_dsR, q_fI, q_fB, q_fN, q_fT, q_fS, q_f0, q_fC, q_mVar, q_toDv, q_toDt, q_toDo, q_stOv, q_stOt, q_stOo, q_rvOv, q_rvOt, q_rvOo, q_put, q_addI, q_addT, q_addS, q_subI, q_mulI, q_fdivI, q_modI, q_powI, q_shlI, q_shrI, q_addLtt, q_addLot, q_addLoo, q_neg, q_eq, q_ne, q_eqI, q_eqS, q_eqB, q_eqIB, q_eqBI, q_eqT, q_eqSI, q_eqIS, q_eqIT, q_eqTI, q_eqNI, q_eqIN, q_is, q_isnt, q_isNnon, q_isNint, q_isNbl, q_isNstr, q_isNtup, q_isNref, q_lt, q_gt, q_le, q_leT, q_ge, q_in, q_notin, q_trN, q_trB, q_trI, q_trT, q_trS, q_asB, q_subT, q_subR, q_subO, q_subM, q_nodeO, q_nodeR, q_nodeM, q_cutT, q_cutR, q_revT, q_intOf, q_lstR, q_lstM, q_lstO, q_lenT, q_lenS, q_lenR, q_lenO, q_lenM, q_abs, q_intI, q_intB, q_allM, q_anyM, q_sumM, q_tupT, q_tupM, q_tupO, q_tupR, q_listT, q_listM, q_listR, q_listO, q_isi, q_tyN, q_tyB, q_tyI, q_tyS, q_tyT, q_tyR, q_metOk, q_append, q_pop, q_popI, q_setO, q_setR, q_putO, q_walkT, q_walkM, q_walkR, q_walkO, q_setN, q_setM, q_setV, q_setlO, q_rng1, q_rng2, q_settV, q_settT, q_settO, q_opdV, q_opdN, q_addO, q_appL, q_popL, q_sortT, q_sortM, q_sortR, q_sortO, q_sset, q_max, q_min, q_mulT, q_cutO, q_cutM, q_enT, q_enM, q_inIT, q_inTT, q_inIR, q_eqMM, q_extend, q_insert, q_extL, q_insL, q_allO, q_allR, q_anyO, q_anyR, q_sumO, q_sumR, hws, h1, h2, hl4, fn_ret hw, hp', -List.all_eq_true, -List.all_eq_false]
          simpa using key
      · by_cases hp : ss.all (holdsW (pre ++ post)) = true
        · rw [if_pos hp] at key
          simp [fn_mkF, semSs, semS, sems, sem, mean, ok_seq, ok_thenN, ok_drop, ok_mRet, ok_mPar, ok_bind', ok_bind, ok_pure, ok_pure', ok_val, ok_tmp, ok_bl, ok_ite, ok_call, ok_lc, ok_lc2, ok_op2, ok_cmp, ok_truth, ok_subO, ok_cutO, ok_revO, ok_negO, ok_intOf, ok_bi, ok_meth, ok_metOk, ok_putO, ok_isi, ok_mVar, ok_toD, ok_stO, ok_rvO, ok_asB, ok_settle, ok_mRng, ok_walkO, ok_enumO, ok_ssetO, ok_put, ok_putT, ok_puts0, ok_putsC, ok_setNode, ok_mDs0, ok_mDsC, ok_mOs0, ok_mOsC, ok_mPart0, ok_mPart1, ok_mIfs0, ok_mIfsC, okM_ok, okM_stuck, okM_exc, okM_ite, Ty.below, atI_nat, atI_0, atI_1, atI_2, atI_3, atI_4, atI_5, atI_6, atI_7, atI_last, q_dII, q_dSS, q_dBB, q_dNN, q_dTT, q_dNI, q_dIN, q_dSI, q_dIS, q_dIT, q_dTI, q_dNT, q_dTN, q_dST, q_dTS, q_ds0, q_dsC, q_dsL, q_dsR, q_fI, q_fB, q_fN, q_fT, q_fS, q_f0, q_fC, q_mVar, q_toDv, q_toDt, q_toDo, q_stOv, q_stOt, q_stOo, q_rvOv, q_rvOt, q_rvOo, q_put, q_addI, q_addT, q_addS, q_subI, q_mulI, q_fdivI, q_modI, q_powI, q_shlI, q_shrI, q_addLtt, q_addLot, q_addLoo, q_neg, q_eq, q_ne, q_eqI, q_eqS, q_eqB, q_eqIB, q_eqBI, q_eqT, q_eqSI, q_eqIS, q_eqIT, q_eqTI, q_eqNI, q_eqIN, q_is, q_isnt, q_isNnon, q_isNint, q_isNbl, q_isNstr, q_isNtup, q_isNref, q_lt, q_gt, q_le, q_leT, q_ge, q_in, q_notin, q_trN, q_trB, q_trI, q_trT, q_trS, q_asB, q_subT, q_subR, q_subO, q_subM, q_nodeO, q_nodeR, q_nodeM, q_cutT, q_cutR, q_revT, q_intOf, q_lstR, q_lstM, q_lstO, q_lenT, q_lenS, q_lenR, q_lenO, q_lenM, q_abs, q_intI, q_intB, q_allM, q_anyM, q_sumM, q_tupT, q_tupM, q_tupO, q_tupR, q_listT, q_listM, q_listR, q_listO, q_isi, q_tyN, q_tyB, q_tyI, q_tyS, q_tyT, q_tyR, q_metOk, q_append, q_pop, q_popI, q_setO, q_setR, q_putO, q_walkT, q_walkM, q_walkR, q_walkO, q_setN, q_setM, q_setV, q_setlO, q_rng1, q_rng2, q_settV, q_settT, q_settO, q_opdV, q_opdN, q_addO, q_appL, q_popL, q_sortT, q_sortM, q_sortR, q_sortO, q_sset, q_max, q_min, q_mulT, q_cutO, q_cutM, q_enT, q_enM, q_inIT, q_inTT, q_inIR, q_eqMM, q_extend, q_insert, q_extL, q_insL, q_allO, q_allR, q_anyO, q_anyR, q_sumO, q_sumR, hws, h1, h2, hl4, fn_ret hw, hp, -List.all_eq_true, e]
          simpa using key
        · rw [if_neg hp] at key
          have hp' : ss.all (holdsW (pre ++ post)) = false := by simpa using hp
          simp [fn_mkF, semSs, semS, sems, sem, mean, ok_seq, ok_thenN, ok_drop, ok_mRet, ok_mPar, ok_bind', ok_bind, ok_pure, ok_pure', ok_val, ok_tmp, ok_bl, ok_ite, ok_call, ok_lc, ok_lc2, ok_op2, ok_cmp, ok_truth, ok_subO, ok_cutO, ok_revO, ok_negO, ok_intOf, ok_bi, ok_meth, ok_metOk, ok_putO, ok_isi, ok_mVar, ok_toD, ok_stO, ok_rvO, ok_asB, ok_settle, ok_mRng, ok_walkO, ok_enumO, ok_ssetO, ok_put, ok_putT, ok_puts0, ok_putsC, ok_setNode, ok_mDs0, ok_mDsC, ok_mOs0, ok_mOsC, ok_mPart0, ok_mPart1, ok_mIfs0, ok_mIfsC, okM_ok, okM_stuck, okM_exc, okM_ite, Ty.below, atI_nat, atI_0, atI_1, atI_2, atI_3, atI_4, atI_5, atI_6, atI_7, atI_last, q_dII, q_dSS, q_dBB, q_dNN, q_dTT, q_dNI, q_dIN, q_dSI, q_dIS, q_dIT, q_dTI, q_dNT, q_dTN, q_dST, q_dTS, q_ds0, q_dsC, q_dsL, q_dsR, q_fI, q_fB, q_fN, q_fT, q_fS, q_f0, q_fC, q_mVar, q_toDv, q_toDt, q_toDo, q_stOv, q_stOt, q_stOo, q_rvOv, q_rvOt, q_rvOo, q_put, q_addI, q_addT, q_addS, q_subI, q_mulI, q_fdivI, q_modI, q_powI, q_shlI, q_shrI, q_addLtt, q_addLot, q_addLoo, q_neg, q_eq, q_ne, q_eqI, q_eqS, q_eqB, q_eqIB, q_eqBI, q_eqT, q_eqSI, q_eqIS, q_eqIT, q_eqTI, q_eqNI, q_eqIN, q_is, q_isnt, q_isNnon, q_isNint, q_isNbl, q_isNstr, q_isNtup, q_isNref, q_lt, q_gt, q_le, q_leT, q_ge, q_in, q_notin, q_trN, q_trB, q_trI, q_trT, q_trS, q_asB, q_subT, q_subR, q_subO, q_subM, q_nodeO, q_nodeR, q_nodeM, q_cutT, q_cutR, q_revT, q_intOf, q_lstR, q_lstM, q_lstO, q_lenT, q_lenS, q_lenR, q_lenO, q_lenM, q_abs, q_intI, q_intB, q_allM, q_anyM, q_sumM, q_tupT, q_tupM, q_tupO, q_tupR, q_listT, q_listM, q_listR, q_listO, q_isi, q_tyN, q_tyB, q_tyI, q_tyS, q_tyT, q_tyR, q_metOk, q_append, q_pop, q_popI, q_setO, q_setR, q_putO, q_walkT, q_walkM, q_walkR, q_walkO, q_setN, q_setM, q_setV, q_setlO, q_rng1, q_rng2, q_settV, q_settT, q_settO, q_opdV, q_opdN, q_addO, q_appL, q_popL, q_sortT, q_sortM, q_sortR, q_sortO, q_sset, q_max, q_min, q_mulT, q_cutO, q_cutM, q_enT, q_enM, q_inIT, q_inTT, q_inIR, q_eqMM, q_extend, q_insert, q_extL, q_insL, q_allO, q_allR, q_anyO, q_anyR, q_sumO, q_sumR, hws, h1, h2, hl4, fn_ret hw, hp', -List.all_eq_true, -List.all_eq_false, e]
          simpa using key
  · intro s hs
    obtain ⟨pre, post, x2, x4, x5, y, hn, hlen, ht, hx, rfl⟩ := (hI _ _).mp hs
    refine ⟨same_none, ?_⟩
    have hp0 : post = [] := List.length_eq_zero_iff.mp hn.symm
    subst hp0
    rw [List.append_nil] at hx hlen
    have hres : thinGo (fun v => ss.all (holdsW v)) [] w = pre := ht.symm
    rw [hres] at q
    obtain ⟨y2, ey2⟩ := gc_ext h y (.val (.tup (wsD pre)))
    have hws := ws_len pre
    rcases hx with rfl | ⟨l, rfl, e⟩
    · simp [fn_mkF, semSs, semS, sems, sem, mean, ok_seq, ok_thenN, ok_drop, ok_mRet, ok_mPar, ok_bind', ok_bind, ok_pure, ok_pure', ok_val, ok_tmp, ok_bl, ok_ite, ok_call, ok_lc, ok_lc2, ok_op2, ok_cmp, ok_truth, ok_subO, ok_cutO, ok_revO, ok_negO, ok_intOf, ok_bi, ok_meth, ok_metOk, ok_putO, ok_isi, ok_mVar, ok_toD, ok_stO, ok_rvO, ok_asB, ok_settle, ok_mRng, ok_walkO, ok_enumO, ok_ssetO, ok_put, ok_putT, ok_puts0, ok_putsC, ok_setNode, ok_mDs0, ok_mDsC, ok_mOs0, ok_mOsC, ok_mPart0, ok_mPart1, ok_mIfs0, ok_mIfsC, okM_ok, okM_stuck, okM_exc, okM_ite, Ty.below, atI_nat, atI_0, atI_1, atI_2, atI_3, atI_4, atI_5, atI_6, atI_7, atI_last, q_dII, q_dSS, q_dBB, q_dNN, q_dTT, q_dNI, q_dIN, q_dSI, q_dIS, q_dIT, q_dTI, q_dNT, q_dTN, q_dST, q_dTS, q_ds0, q_dsC, q_dsL, q_dsR, q_fI, q_fB, q_fN, q_fT, q_fS, q_f0, q_fC, q_mVar, q_toDv, q_toDt, q_toDo, q_stOv, q_stOt, q_stOo, q_rvOv, q_rvOt, q_rvOo, q_put, q_addI, q_addT, q_addS, q_subI, q_mulI, q_fdivI, q_modI, q_powI, q_shlI, q_shrI, q_addLtt, q_addLot, q_addLoo, q_neg, q_eq, q_ne, q_eqI, q_eqS, q_eqB, q_eqIB, q_eqBI, q_eqT, q_eqSI, q_eqIS, q_eqIT, q_eqTI, q_eqNI, q_eqIN, q_is, q_isnt, q_isNnon, q_isNint, q_isNbl, q_isNstr, q_isNtup, q_isNref, q_lt, q_gt, q_le, q_leT, q_ge, q_in, q_notin, q_trN, q_trB, q_trI, q_trT, q_trS, q_asB, q_subT, q_subR, q_subO, q_subM, q_nodeO, q_nodeR, q_nodeM, q_cutT, q_cutR, q_revT, q_intOf, q_lstR, q_lstM, q_lstO, q_lenT, q_lenS, q_lenR, q_lenO, q_lenM, q_abs, q_intI, q_intB, q_allM, q_anyM, q_sumM, q_tupT, q_tupM, q_tupO, q_tupR, q_listT, q_listM, q_listR, q_listO, q_isi, q_tyN, q_tyB, q_tyI, q_tyS, q_tyT, q_tyR, q_metOk, q_append, q_pop, q_popI, q_setO, q_setR, q_putO, q_walkT, q_walkM, q_walkR, q_walkO, q_setN, q_setM, q_setV, q_setlO, q_rng1, q_rng2, q_settV, q_settT, q_settO, q_opdV, q_opdN, q_addO, q_appL, q_popL, q_sortT, q_sortM, q_sortR, q_sortO, q_sset, q_max, q_min, q_mulT, q_cutO, q_cutM, q_enT, q_enM, q_inIT, q_inTT, q_inIR, q_eqMM, q_extend, q_insert, q_extL, q_insL, q_allO, q_allR, q_anyO, q_anyR, q_sumO, q_sumR, hws, ey2]; exact q y2
    · simp [fn_mkF, semSs, semS, sems, sem, mean, ok_seq, ok_thenN, ok_drop, ok_mRet, ok_mPar, ok_bind', ok_bind, ok_pure, ok_pure', ok_val, ok_tmp, ok_bl, ok_ite, ok_call, ok_lc, ok_lc2, ok_op2, ok_cmp, ok_truth, ok_subO, ok_cutO, ok_revO, ok_negO, ok_intOf, ok_bi, ok_meth, ok_metOk, ok_putO, ok_isi, ok_mVar, ok_toD, ok_stO, ok_rvO, ok_asB, ok_settle, ok_mRng, ok_walkO, ok_enumO, ok_ssetO, ok_put, ok_putT, ok_puts0, ok_putsC, ok_setNode, ok_mDs0, ok_mDsC, ok_mOs0, ok_mOsC, ok_mPart0, ok_mPart1, ok_mIfs0, ok_mIfsC, okM_ok, okM_stuck, okM_exc, okM_ite, Ty.below, atI_nat, atI_0, atI_1, atI_2, atI_3, atI_4, atI_5, atI_6, atI_7, atI_last, q_dII, q_dSS, q_dBB, q_dNN, q_dTT, q_dNI, q_dIN, q_dSI, q_dIS, q_dIT, q_dTI, q_dNT, q_dTN, q_dST, q_dTS, q_ds0, q_dsC, q_dsL, q_dsR, q_fI, q_fB, q_fN, q_fT, q_fS, q_f0, q_fC, q_mVar, q_toDv, q_toDt, q_toDo, q_stOv, q_stOt, q_stOo, q_rvOv, q_rvOt, q_rvOo, q_put, q_addI, q_addT, q_addS, q_subI, q_mulI, q_fdivI, q_modI, q_powI, q_shlI, q_shrI, q_addLtt, q_addLot, q_addLoo, q_neg, q_eq, q_ne, q_eqI, q_eqS, q_eqB, q_eqIB, q_eqBI, q_eqT, q_eqSI, q_eqIS, q_eqIT, q_eqTI, q_eqNI, q_eqIN, q_is, q_isnt, q_isNnon, q_isNint, q_isNbl, q_isNstr, q_isNtup, q_isNref, q_lt, q_gt, q_le, q_leT, q_ge, q_in, q_notin, q_trN, q_trB, q_trI, q_trT, q_trS, q_asB, q_subT, q_subR, q_subO, q_subM, q_nodeO, q_nodeR, q_nodeM, q_cutT, q_cutR, q_revT, q_intOf, q_lstR, q_lstM, q_lstO, q_lenT, q_lenS, q_lenR, q_lenO, q_lenM, q_abs, q_intI, q_intB, q_allM, q_anyM, q_sumM, q_tupT, q_tupM, q_tupO, q_tupR, q_listT, q_listM, q_listR, q_listO, q_isi, q_tyN, q_tyB, q_tyI, q_tyS, q_tyT, q_tyR, q_metOk, q_append, q_pop, q_popI, q_setO, q_setR, q_putO, q_walkT, q_walkM, q_walkR, q_walkO, q_setN, q_setM, q_setV, q_setlO, q_rng1, q_rng2, q_settV, q_settT, q_settO, q_opdV, q_opdN, q_addO, q_appL, q_popL, q_sortT, q_sortM, q_sortR, q_sortO, q_sset, q_max, q_min, q_mulT, q_cutO, q_cutM, q_enT, q_enM, q_inIT, q_inTT, q_inIR, q_eqMM, q_extend, q_insert, q_extL, q_insL, q_allO, q_allR, q_anyO, q_anyR, q_sumO, q_sumR, hws, ey2, e]; exact q y2
end G

/-! G8: all sorted worlds. -/
set_option linter.all false
set_option maxRecDepth 100000
set_option Elab.async false
set_option autoImplicit false
set_option maxHeartbeats 0
namespace G
open PySem Y
/-! ### plain -/
def ltT : List Int → List Int → Bool
  | [], [] => false
  | [], _ :: _ => true
  | _ :: _, [] => false
  | a :: s, b :: t => if a = b then ltT s t else decide (a < b)
theorem ltL_ints : ∀ s t : List Int, D.ltL (s.map .int) (t.map .int) = ltT s t
  | [], [] => by simp [D.ltL, ltT]
  | [], b :: t => by simp [D.ltL, ltT]
  | a :: s, [] => by simp [D.ltL, ltT]
  | a :: s, b :: t => by
    simp only [List.map_cons, D.ltL, ltT, q_dII, ltL_ints s t, beq_iff_eq, D.lt]
abbrev W := List (List Int)
/-- all things, unsorted -/
def thT : Nat → W
  | 0 => [[]]
  | n + 1 => thT n ++ (thT n).map fun t => t ++ [(n : Int)]
/-- .. sorted -/
def thK : Nat → W
  | 1 => [[], [0]]
  | 2 => [[], [0], [0, 1], [1]]
  | 3 => [[], [0], [0, 1], [0, 1, 2], [0, 2], [1], [1, 2], [2]]
  | _ => []
theorem thT_len : ∀ n, (thT n).length = 2 ^ n
  | 0 => rfl
  | n + 1 => by simp [thT, thT_len n, Nat.pow_succ]; omega
theorem srt_K (n : Nat) (h0 : 1 ≤ n) (h1 : n ≤ 3) : D.srt (wsD (thT n)) = wsD (thK n) := by
  have : n = 1 ∨ n = 2 ∨ n = 3 := by omega
  rcases this with rfl | rfl | rfl <;> simp [wsD, tD, thT, thK, D.srt, D.ins, D.lt, D.ltL, q_dII]
/-- not below the last -/
def okNext (w : W) (t : List Int) : Bool := match w.getLast? with
  | none => true
  | some u => !ltT t u
/-- one thing more -/
def stepL (K : W) (l : List W) : List W := l.flatMap fun w => K.filterMap fun t => if okNext w t = true then some (w ++ [t]) else none
def lineL (K : W) : Nat → List W
  | 0 => [[]]
  | n + 1 => stepL K (lineL K n)
def foundL (K : W) : Nat → List W
  | 0 => [[]]
  | n + 1 => foundL K n ++ lineL K (n + 1)
theorem filterMap_le {α β : Type} (f : α → Option β) (l : List α) : (l.filterMap f).length ≤ l.length := List.length_filterMap_le f l
theorem stepL_len (K : W) : ∀ l : List W, (stepL K l).length ≤ l.length * K.length
  | [] => by simp [stepL]
  | w :: l => by
    have ih := stepL_len K l
    unfold stepL at ih ⊢
    rw [List.flatMap_cons, List.length_append, List.length_cons, Nat.add_mul]
    have := filterMap_le (fun t => if okNext w t = true then some (w ++ [t]) else none) K
    omega
theorem lineL_len {K : W} (h : K.length ≤ 8) : ∀ n, (lineL K n).length ≤ 8 ^ n
  | 0 => by simp [lineL]
  | n + 1 => by
    have ih := lineL_len h n
    have := stepL_len K (lineL K n)
    have h2 : (lineL K n).length * K.length ≤ 8 ^ n * 8 := Nat.mul_le_mul ih h
    simp only [lineL, Nat.pow_succ]
    omega
theorem foundL_len {K : W} (h : K.length ≤ 8) : ∀ n, (foundL K n).length ≤ 2 * 8 ^ n
  | 0 => by simp [foundL]
  | n + 1 => by
    have ih := foundL_len h n
    have := lineL_len h (n + 1)
    simp only [foundL, List.length_append]
    have : 8 ^ (n + 1) = 8 ^ n * 8 := Nat.pow_succ ..
    have : 0 < 8 ^ n := Nat.pow_pos (by decide)
    omega
/-- each world: so many things at most, of K -/
theorem lineL_ok {K : W} : ∀ n, ∀ w ∈ lineL K n, w.length = n ∧ ∀ t ∈ w, t ∈ K
  | 0, w, h => by simp [lineL] at h; subst h; simp
  | n + 1, w, h => by
    simp only [lineL, stepL, List.mem_flatMap, List.mem_filterMap] at h
    obtain ⟨v, hv, t, ht, e⟩ := h
    obtain ⟨h1, h2⟩ := lineL_ok n v hv
    have e2 : v ++ [t] = w := by
      generalize okNext v t = b at e
      cases b with
      | true => exact Option.some.inj e
      | false => cases e
    subst e2
    refine ⟨by simp [h1], fun u hu => ?_⟩
    rcases List.mem_append.mp hu with hu | hu
    · exact h2 u hu
    · rw [List.mem_singleton.mp hu]; exact ht
theorem foundL_ok {K : W} : ∀ n, ∀ w ∈ foundL K n, w.length ≤ n ∧ ∀ t ∈ w, t ∈ K
  | 0, w, h => by simp [foundL] at h; subst h; simp
  | n + 1, w, h => by
    simp only [foundL, List.mem_append] at h
    rcases h with h | h
    · obtain ⟨h1, h2⟩ := foundL_ok n w h; exact ⟨by omega, h2⟩
    · obtain ⟨h1, h2⟩ := lineL_ok (n + 1) w h; exact ⟨by omega, h2⟩
/-- the law's way: with the place of the last thing -/
def stepR (K : W) (l : List (W × Nat)) : List (W × Nat) := l.flatMap fun p => ((List.range K.length).drop p.2).map fun at_ => (p.1 ++ [K.getD at_ []], at_)
def rowsR (K : W) : Nat → List (W × Nat)
  | 0 => [([], 0)]
  | n + 1 => stepR K (rowsR K n)
/-- things strictly ascending -/
def Asc (K : W) : Prop := ∀ f, f < K.length → (K.filterMap fun t => if (!ltT t (K.getD f [])) = true then some t else none) = K.drop f
theorem asc_K (n : Nat) (h0 : 1 ≤ n) (h1 : n ≤ 3) : Asc (thK n) ∧ (thK n).length ≤ 8 ∧ (∀ t ∈ thK n, t.length ≤ 3) ∧ ∀ t ∈ thK n, GoodT n t := by
  have : n = 1 ∨ n = 2 ∨ n = 3 := by omega
  unfold Asc GoodT
  rcases this with rfl | rfl | rfl <;> decide
theorem drop_range_map (K : W) : ∀ f, ((List.range K.length).drop f).map (fun i => K.getD i []) = K.drop f := by
  intro f
  apply List.ext_getElem
  · simp
  · intro i h1 h2
    simp only [List.length_map, List.length_drop, List.length_range] at h1
    simp
    rw [List.getElem?_eq_getElem (by omega)]
    rfl
theorem rows_line {K : W} (hA : Asc K) : ∀ n, (rowsR K n).map (·.1) = lineL K n ∧ ∀ p ∈ rowsR K n, (p.1 = [] ∧ p.2 = 0) ∨ (p.2 < K.length ∧ p.1.getLast? = some (K.getD p.2 []))
  | 0 => by simp [rowsR, lineL]
  | n + 1 => by
    obtain ⟨h1, h2⟩ := rows_line hA n
    refine ⟨?_, fun p hp => ?_⟩
    · simp only [rowsR, lineL, stepR, stepL]
      rw [← h1, List.flatMap_map, List.map_flatMap]
      have gen : ∀ l : List (W × Nat), (∀ p ∈ l, (p.1 = [] ∧ p.2 = 0) ∨ (p.2 < K.length ∧ p.1.getLast? = some (K.getD p.2 []))) →
          l.flatMap (fun a => (((List.range K.length).drop a.2).map fun at_ => (a.1 ++ [K.getD at_ []], at_)).map (·.1)) = l.flatMap fun a => K.filterMap fun t => if okNext a.1 t = true then some (a.1 ++ [t]) else none := by
        intro l
        induction l with
        | nil => intro _; rfl
        | cons p l ih =>
          intro hp
          rw [List.flatMap_cons, List.flatMap_cons, ih fun q hq => hp q (List.mem_cons_of_mem _ hq)]
          congr 1
          rw [List.map_map]
          have e1 : ((fun x : W × Nat => x.1) ∘ fun at_ => (p.1 ++ [K.getD at_ []], at_)) = (fun t => p.1 ++ [t]) ∘ fun at_ => K.getD at_ [] := rfl
          rw [e1, ← List.map_map, drop_range_map]
          rcases hp p List.mem_cons_self with ⟨q1, q2⟩ | ⟨q1, q2⟩
          · rw [q1, q2]
            simp only [okNext, List.getLast?_nil, if_true, List.drop_zero]
            exact (filterMap_some (fun t => [] ++ [t]) K).symm
          · rw [← hA p.2 q1, List.map_filterMap]
            refine congrArg (fun g => List.filterMap g K) (funext fun t => ?_)
            have eo : okNext p.1 t = !ltT t (K.getD p.2 []) := by unfold okNext; rw [q2]
            rw [eo]
            by_cases hh : (!ltT t (K.getD p.2 [])) = true
            · rw [if_pos hh, if_pos hh]; rfl
            · rw [if_neg hh, if_neg hh]; rfl
      exact gen _ h2
    · simp only [rowsR, stepR, List.mem_flatMap, List.mem_map] at hp
      obtain ⟨q, hq, i, hi, rfl⟩ := hp
      right
      have : i < K.length := by
        have := List.mem_of_mem_drop hi
        simpa using this
      exact ⟨this, by simp⟩
end G

/-! G9: all sorted worlds, by the program and by the law. -/
set_option linter.all false
set_option maxRecDepth 100000
set_option Elab.async false
set_option autoImplicit false
set_option maxHeartbeats 0
namespace G
open PySem Y
/-- a comprehension of two clauses, no test behind the first -/
theorem ok_lc2_of {α β : Type} (l : List α) (enc : α → D) (l2 : List β) (enc2 : β → D) (g : α → β → Option D) {own vs1 : List Nat} {elt : M Opd} {t t1 : Tg} {ifs ifs1 : M Bool} {src1 : M Walk} {w w1 : Walk} {sl : List Slot} {hp : List Node} {Q : List D → St → Prop} (sla : α → List Slot)
    (hds : w.ds = l.map enc) (hw : w.same ⟨wipe own sl, hp⟩ = true) (hlen : l.length * l2.length ≤ lim) (hds1 : w1.ds = l2.map enc2) (hno : ∀ n xs, w1.live ≠ some (.tmp n, xs))
    (h0 : ∀ a ∈ l, Ok (t.put (enc a)) ⟨wipe own sl, hp⟩ fun _ s1 => Ok ifs s1 fun b s2 => b = true ∧ s2 = ⟨sla a, hp⟩)
    (h1 : ∀ a ∈ l, src1 ⟨sla a, hp⟩ = .ok w1 ⟨sla a, hp⟩) (h2 : ∀ a ∈ l, w1.same ⟨wipe vs1 (sla a), hp⟩ = true) (h3 : ∀ a ∈ l, wipe own (wipe vs1 (sla a)) = wipe own sl)
    (h4 : ∀ a ∈ l, ∀ b ∈ l2, Ok (t1.put (enc2 b)) ⟨wipe vs1 (sla a), hp⟩ fun _ s1 => Ok ifs1 s1 fun c s2 => if c = true then Ok elt s2 (fun o s3 => Ok (toD o) s3 fun e s4 => g a b = some e ∧ wipe vs1 s4.sl = wipe vs1 (sla a) ∧ s4.hp = hp) else g a b = none ∧ wipe vs1 s2.sl = wipe vs1 (sla a) ∧ s2.hp = hp)
    (q : Q (l.flatMap fun a => l2.filterMap (g a)) ⟨wipe own sl, hp⟩) : Ok (lcGo2 w own vs1 elt t ifs t1 src1 ifs1 w.ds []) ⟨wipe own sl, hp⟩ Q := by
  have flen : ∀ pre : List α, (pre.flatMap fun a => l2.filterMap (g a)).length ≤ pre.length * l2.length := by
    intro pre
    induction pre with
    | nil => simp
    | cons a pre ih =>
      rw [List.flatMap_cons, List.length_append, List.length_cons, Nat.add_mul]
      have := List.length_filterMap_le (g a) l2
      omega
  have gen : ∀ (post pre : List α), l = pre ++ post → Ok (lcGo2 w own vs1 elt t ifs t1 src1 ifs1 (post.map enc) (pre.flatMap fun a => l2.filterMap (g a))) ⟨wipe own sl, hp⟩ Q := by
    intro post
    induction post with
    | nil =>
      intro pre e
      rw [List.append_nil] at e
      subst e
      exact ⟨_, _, by simp only [List.map_nil]; unfold lcGo2; rw [if_pos hw], q⟩
    | cons a post ih =>
      intro pre e
      have ha : a ∈ l := by rw [e]; simp
      obtain ⟨z, s1, e1, b, s2, e2, rfl, rfl⟩ := h0 a ha
      have e3 : (t.put (enc a) >>= fun _ => ifs) ⟨wipe own sl, hp⟩ = .ok true ⟨sla a, hp⟩ := by rw [bind_def, e1]; exact e2
      have inner : Ok (lcGo w1 vs1 elt t1 ifs1 w1.ds (pre.flatMap fun a => l2.filterMap (g a))) ⟨wipe vs1 (sla a), hp⟩ fun ds s => ds = ((pre ++ [a]).flatMap fun a => l2.filterMap (g a)) ∧ s = ⟨wipe vs1 (sla a), hp⟩ := by
        rw [hds1]
        refine ok_lcGo (fun ds acc hp' => hp' = hp ∧ ∃ p2 q2, l2 = p2 ++ q2 ∧ ds = q2.map enc2 ∧ acc = (pre.flatMap fun a => l2.filterMap (g a)) ++ p2.filterMap (g a)) ?_ ?_ _ _ hp ⟨rfl, [], l2, rfl, rfl, by simp⟩
        · rintro d ds acc hp' ⟨rfl, p2, q2, el, ed, rfl⟩
          cases q2 with
          | nil => cases ed
          | cons b q2 =>
            simp only [List.map_cons, List.cons.injEq] at ed
            obtain ⟨rfl, rfl⟩ := ed
            have hb : b ∈ l2 := by rw [el]; simp
            have hl1 : ((pre.flatMap fun a => l2.filterMap (g a)) ++ p2.filterMap (g a)).length < lim := by
              rw [List.length_append]
              have a1 := flen pre
              have a2 := List.length_filterMap_le (g a) p2
              have a3 := congrArg List.length el
              have a4 := congrArg List.length e
              simp only [List.length_append, List.length_cons] at a3 a4
              have a5 : (pre.length + 1) * l2.length ≤ l.length * l2.length := Nat.mul_le_mul_right _ (by omega)
              rw [Nat.add_mul] at a5
              omega
            refine ⟨h2 a ha, (h4 a ha b hb).mono fun _ s1 k1 => k1.mono fun c s2 k2 => ?_⟩
            split
            · rename_i hc
              rw [if_pos hc] at k2
              refine k2.mono fun o s3 k3 => k3.mono fun x s4 k4 => ?_
              obtain ⟨q1, q2', q3⟩ := k4
              exact ⟨hl1, q2', q3, p2 ++ [b], q2, by rw [el]; simp, rfl, by rw [List.filterMap_append]; simp [q1]⟩
            · rename_i hc
              rw [if_neg hc] at k2
              obtain ⟨q1, q2', q3⟩ := k2
              exact ⟨q2', q3, p2 ++ [b], q2, by rw [el]; simp, rfl, by rw [List.filterMap_append]; simp [q1]⟩
        · rintro acc hp' ⟨rfl, p2, q2, el, ed, rfl⟩
          have : q2 = [] := by simpa using ed.symm
          subst this
          rw [List.append_nil] at el
          subst el
          exact ⟨h2 a ha, by rw [List.flatMap_append]; simp, rfl⟩
      obtain ⟨acc', s3, e4, rfl, rfl⟩ := inner
      obtain ⟨r, s5, e5, q5⟩ := ih (pre ++ [a]) (by rw [e]; simp)
      refine ⟨r, s5, ?_, q5⟩
      simp only [List.map_cons]
      unfold lcGo2
      rw [if_pos hw, e3]
      simp only
      rw [h1 a ha]
      simp only
      rw [e4]
      simp only
      rw [h3 a ha]
      exact e5
  rw [hds]
  exact gen l [] rfl
theorem lst_same {k : Nat} {sl : List Slot} {hp : List Node} {ds : List D} (h : sl[k]? = some (.own (.lst ds))) : (Walk.mk ds (some (.own k, ds))).same ⟨sl, hp⟩ = true := same_of (by simp [q_lstO, q_nodeO, h])
theorem ref_same {l : Nat} {sl : List Slot} {hp : List Node} {ds : List D} {es : List D} (h : hp[l]? = some (.lst ds)) : (Walk.mk es (some (.val (.ref l), ds))).same ⟨sl, hp⟩ = true := same_of (by simp [q_lstR, h])
/-! ### all_things -/
def AllThingsSp (f : FnD) : Prop := ∀ (n : Nat) (h : List Node), 1 ≤ n → n ≤ 3 → f [.int n] h = .ret (.node (.lst (wsD (thK n)))) h
def irAllThings : ISs := (.cons (.set 1 (.lst (.cons (.tup .nil) .nil)))
  (.cons (.fo (.name 2) (.rng (.cons (.var 0) .nil)) (.cons (.set 1 (.bin .add (.var 1) (.lc [3] (.bin .add (.var 3) (.tup (.cons (.var 2) .nil))) (.name 3) (.var 1) .nil)))
  .nil))
  (.cons (.ret (.bi .sorted (.cons (.var 1) .nil)))
  .nil)))
theorem thT_small (i : Nat) (h : i ≤ 3) : (thT i).length ≤ 8 := by
  rw [thT_len]
  exact Nat.pow_le_pow_right (n := 2) (by decide) h
theorem thT_item (i : Nat) (hi : i ≤ 3) : ∀ t ∈ thT i, t.length ≤ 3 := by
  have : i = 0 ∨ i = 1 ∨ i = 2 ∨ i = 3 := by omega
  rcases this with rfl | rfl | rfl | rfl <;> decide
theorem allthings_sp (T : Tb) : AllThingsSp (mkF 4 (semSs T irAllThings)) := by
  intro n h h0 h1
  apply fn_eq
  have hlim := lim_eq
  have smn : small (n : Int) := ⟨by omega, by omega⟩
  simp [irAllThings, fn_mkF, semSs, semS, sems, sem, mean, ok_seq, ok_thenN, ok_drop, ok_mRet, ok_mPar, ok_bind', ok_bind, ok_pure, ok_pure', ok_val, ok_tmp, ok_bl, ok_ite, ok_call, ok_lc, ok_lc2, ok_op2, ok_cmp, ok_truth, ok_subO, ok_cutO, ok_revO, ok_negO, ok_intOf, ok_bi, ok_meth, ok_metOk, ok_putO, ok_isi, ok_mVar, ok_toD, ok_stO, ok_rvO, ok_asB, ok_settle, ok_mRng, ok_walkO, ok_enumO, ok_ssetO, ok_put, ok_putT, ok_puts0, ok_putsC, ok_setNode, ok_mDs0, ok_mDsC, ok_mOs0, ok_mOsC, ok_mPart0, ok_mPart1, ok_mIfs0, ok_mIfsC, okM_ok, okM_stuck, okM_exc, okM_ite, Ty.below, atI_nat, atI_0, atI_1, atI_2, atI_3, atI_4, atI_5, atI_6, atI_7, atI_last, q_dII, q_dSS, q_dBB, q_dNN, q_dTT, q_dNI, q_dIN, q_dSI, q_dIS, q_dIT, q_dTI, q_dNT, q_dTN, q_dST, q_dTS, q_ds0, q_dsC, q_dsL, q_dsR, q_fI, q_fB, q_fN, q_fT, q_fS, q_f0, q_fC, q_mVar, q_toDv, q_toDt, q_toDo, q_stOv, q_stOt, q_stOo, q_rvOv, q_rvOt, q_rvOo, q_put, q_addI, q_addT, q_addS, q_subI, q_mulI, q_fdivI, q_modI, q_powI, q_shlI, q_shrI, q_addLtt, q_addLot, q_addLoo, q_neg, q_eq, q_ne, q_eqI, q_eqS, q_eqB, q_eqIB, q_eqBI, q_eqT, q_eqSI, q_eqIS, q_eqIT, q_eqTI, q_eqNI, q_eqIN, q_is, q_isnt, q_isNnon, q_isNint, q_isNbl, q_isNstr, q_isNtup, q_isNref, q_lt, q_gt, q_le, q_leT, q_ge, q_in, q_notin, q_trN, q_trB, q_trI, q_trT, q_trS, q_asB, q_subT, q_subR, q_subO, q_subM, q_nodeO, q_nodeR, q_nodeM, q_cutT, q_cutR, q_revT, q_intOf, q_lstR, q_lstM, q_lstO, q_lenT, q_lenS, q_lenR, q_lenO, q_lenM, q_abs, q_intI, q_intB, q_allM, q_anyM, q_sumM, q_tupT, q_tupM, q_tupO, q_tupR, q_listT, q_listM, q_listR, q_listO, q_isi, q_tyN, q_tyB, q_tyI, q_tyS, q_tyT, q_tyR, q_metOk, q_append, q_pop, q_popI, q_setO, q_setR, q_putO, q_walkT, q_walkM, q_walkR, q_walkO, q_setN, q_setM, q_setV, q_setlO, q_rng1, q_rng2, q_settV, q_settT, q_settO, q_opdV, q_opdN, q_addO, q_appL, q_popL, q_sortT, q_sortM, q_sortR, q_sortO, q_sset, q_max, q_min, q_mulT, q_cutO, q_cutM, q_enT, q_enM, q_inIT, q_inTT, q_inIR, q_eqMM, q_extend, q_insert, q_extL, q_insL, q_allO, q_allR, q_anyO, q_anyR, q_sumO, q_sumR, smn]
  obtain ⟨I, hI⟩ : ∃ I : List D → St → Prop, ∀ ds s, I ds s ↔ ∃ (i : Nat) (x2 : Slot), i ≤ n ∧ ds = (upD 0 n).drop i ∧ s = ⟨[.val (.int n), .own (.lst (wsD (thT i))), x2, .unset], h⟩ := ⟨_, fun _ _ => Iff.rfl⟩
  refine ok_for I ?_ ?_ _ _ ((hI _ _).mpr ⟨0, .unset, by omega, rfl, rfl⟩)
  · intro d ds s hs
    obtain ⟨i, x2, hi, hds, rfl⟩ := (hI _ _).mp hs
    obtain ⟨hin, rfl, rfl⟩ := upD_drop hds.symm
    refine ⟨same_none, ?_⟩
    have l8 := thT_small i (by omega)
    have wl := ws_len (thT i)
    simp [fn_mkF, semSs, semS, sems, sem, mean, ok_seq, ok_thenN, ok_drop, ok_mRet, ok_mPar, ok_bind', ok_bind, ok_pure, ok_pure', ok_val, ok_tmp, ok_bl, ok_ite, ok_call, ok_lc, ok_lc2, ok_op2, ok_cmp, ok_truth, ok_subO, ok_cutO, ok_revO, ok_negO, ok_intOf, ok_bi, ok_meth, ok_metOk, ok_putO, ok_isi, ok_mVar, ok_toD, ok_stO, ok_rvO, ok_asB, ok_settle, ok_mRng, ok_walkO, ok_enumO, ok_ssetO, ok_put, ok_putT, ok_puts0, ok_putsC, ok_setNode, ok_mDs0, ok_mDsC, ok_mOs0, ok_mOsC, ok_mPart0, ok_mPart1, ok_mIfs0, ok_mIfsC, okM_ok, okM_stuck, okM_exc, okM_ite, Ty.below, atI_nat, atI_0, atI_1, atI_2, atI_3, atI_4, atI_5, atI_6, atI_7, atI_last, q_dII, q_dSS, q_dBB, q_dNN, q_dTT, q_dNI, q_dIN, q_dSI, q_dIS, q_dIT, q_dTI, q_dNT, q_dTN, q_dST, q_dTS, q_ds0, q_dsC, q_dsL, q_dsR, q_fI, q_fB, q_fN, q_fT, q_fS, q_f0, q_fC, q_mVar, q_toDv, q_toDt, q_toDo, q_stOv, q_stOt, q_stOo, q_rvOv, q_rvOt, q_rvOo, q_put, q_addI, q_addT, q_addS, q_subI, q_mulI, q_fdivI, q_modI, q_powI, q_shlI, q_shrI, q_addLtt, q_addLot, q_addLoo, q_neg, q_eq, q_ne, q_eqI, q_eqS, q_eqB, q_eqIB, q_eqBI, q_eqT, q_eqSI, q_eqIS, q_eqIT, q_eqTI, q_eqNI, q_eqIN, q_is, q_isnt, q_isNnon, q_isNint, q_isNbl, q_isNstr, q_isNtup, q_isNref, q_lt, q_gt, q_le, q_leT, q_ge, q_in, q_notin, q_trN, q_trB, q_trI, q_trT, q_trS, q_asB, q_subT, q_subR, q_subO, q_subM, q_nodeO, q_nodeR, q_nodeM, q_cutT, q_cutR, q_revT, q_intOf, q_lstR, q_lstM, q_lstO, q_lenT, q_lenS, q_lenR, q_lenO, q_lenM, q_abs, q_intI, q_intB, q_allM, q_anyM, q_sumM, q_tupT, q_tupM, q_tupO, q_tupR, q_listT, q_listM, q_listR, q_listO, q_isi, q_tyN, q_tyB, q_tyI, q_tyS, q_tyT, q_tyR, q_metOk, q_append, q_pop, q_popI, q_setO, q_setR, q_putO, q_walkT, q_walkM, q_walkR, q_walkO, q_setN, q_setM, q_setV, q_setlO, q_rng1, q_rng2, q_settV, q_settT, q_settO, q_opdV, q_opdN, q_addO, q_appL, q_popL, q_sortT, q_sortM, q_sortR, q_sortO, q_sset, q_max, q_min, q_mulT, q_cutO, q_cutM, q_enT, q_enM, q_inIT, q_inTT, q_inIR, q_eqMM, q_extend, q_insert, q_extL, q_insL, q_allO, q_allR, q_anyO, q_anyR, q_sumO, q_sumR, wipe]
    refine ok_lc_of (thT i) tD (fun t => some (tD (t ++ [(i : Int)]))) (w := ⟨wsD (thT i), some (.own 1, wsD (thT i))⟩) (own := [3]) (sl := [.val (.int n), .own (.lst (wsD (thT i))), .val (.int i), .unset]) rfl (lst_same rfl) (by omega) (fun t ht => ?_) ?_
    · have tl := thT_item i (by omega) t ht
      have tl2 : t.length + 1 ≤ lim := by omega
      simp [wipe, tD, fn_mkF, semSs, semS, sems, sem, mean, ok_seq, ok_thenN, ok_drop, ok_mRet, ok_mPar, ok_bind', ok_bind, ok_pure, ok_pure', ok_val, ok_tmp, ok_bl, ok_ite, ok_call, ok_lc, ok_lc2, ok_op2, ok_cmp, ok_truth, ok_subO, ok_cutO, ok_revO, ok_negO, ok_intOf, ok_bi, ok_meth, ok_metOk, ok_putO, ok_isi, ok_mVar, ok_toD, ok_stO, ok_rvO, ok_asB, ok_settle, ok_mRng, ok_walkO, ok_enumO, ok_ssetO, ok_put, ok_putT, ok_puts0, ok_putsC, ok_setNode, ok_mDs0, ok_mDsC, ok_mOs0, ok_mOsC, ok_mPart0, ok_mPart1, ok_mIfs0, ok_mIfsC, okM_ok, okM_stuck, okM_exc, okM_ite, Ty.below, atI_nat, atI_0, atI_1, atI_2, atI_3, atI_4, atI_5, atI_6, atI_7, atI_last, q_dII, q_dSS, q_dBB, q_dNN, q_dTT, q_dNI, q_dIN, q_dSI, q_dIS, q_dIT, q_dTI, q_dNT, q_dTN, q_dST, q_dTS, q_ds0, q_dsC, q_dsL, q_dsR, q_fI, q_fB, q_fN, q_fT, q_fS, q_f0, q_fC, q_mVar, q_toDv, q_toDt, q_toDo, q_stOv, q_stOt, q_stOo, q_rvOv, q_rvOt, q_rvOo, q_put, q_addI, q_addT, q_addS, q_subI, q_mulI, q_fdivI, q_modI, q_powI, q_shlI, q_shrI, q_addLtt, q_addLot, q_addLoo, q_neg, q_eq, q_ne, q_eqI, q_eqS, q_eqB, q_eqIB, q_eqBI, q_eqT, q_eqSI, q_eqIS, q_eqIT, q_eqTI, q_eqNI, q_eqIN, q_is, q_isnt, q_isNnon, q_isNint, q_isNbl, q_isNstr, q_isNtup, q_isNref, q_lt, q_gt, q_le, q_leT, q_ge, q_in, q_notin, q_trN, q_trB, q_trI, q_trT, q_trS, q_asB, q_subT, q_subR, q_subO, q_subM, q_nodeO, q_nodeR, q_nodeM, q_cutT, q_cutR, q_revT, q_intOf, q_lstR, q_lstM, q_lstO, q_lenT, q_lenS, q_lenR, q_lenO, q_lenM, q_abs, q_intI, q_intB, q_allM, q_anyM, q_sumM, q_tupT, q_tupM, q_tupO, q_tupR, q_listT, q_listM, q_listR, q_listO, q_isi, q_tyN, q_tyB, q_tyI, q_tyS, q_tyT, q_tyR, q_metOk, q_append, q_pop, q_popI, q_setO, q_setR, q_putO, q_walkT, q_walkM, q_walkR, q_walkO, q_setN, q_setM, q_setV, q_setlO, q_rng1, q_rng2, q_settV, q_settT, q_settO, q_opdV, q_opdN, q_addO, q_appL, q_popL, q_sortT, q_sortM, q_sortR, q_sortO, q_sset, q_max, q_min, q_mulT, q_cutO, q_cutM, q_enT, q_enM, q_inIT, q_inTT, q_inIR, q_eqMM, q_extend, q_insert, q_extL, q_insL, q_allO, q_allR, q_anyO, q_anyR, q_sumO, q_sumR, tl2]
    · rw [filterMap_some]
      have l9 : (thT i).length + (thT i).length ≤ lim := by omega
      simp [wipe, unwipe, fn_mkF, semSs, semS, sems, sem, mean, ok_seq, ok_thenN, ok_drop, ok_mRet, ok_mPar, ok_bind', ok_bind, ok_pure, ok_pure', ok_val, ok_tmp, ok_bl, ok_ite, ok_call, ok_lc, ok_lc2, ok_op2, ok_cmp, ok_truth, ok_subO, ok_cutO, ok_revO, ok_negO, ok_intOf, ok_bi, ok_meth, ok_metOk, ok_putO, ok_isi, ok_mVar, ok_toD, ok_stO, ok_rvO, ok_asB, ok_settle, ok_mRng, ok_walkO, ok_enumO, ok_ssetO, ok_put, ok_putT, ok_puts0, ok_putsC, ok_setNode, ok_mDs0, ok_mDsC, ok_mOs0, ok_mOsC, ok_mPart0, ok_mPart1, ok_mIfs0, ok_mIfsC, okM_ok, okM_stuck, okM_exc, okM_ite, Ty.below, atI_nat, atI_0, atI_1, atI_2, atI_3, atI_4, atI_5, atI_6, atI_7, atI_last, q_dII, q_dSS, q_dBB, q_dNN, q_dTT, q_dNI, q_dIN, q_dSI, q_dIS, q_dIT, q_dTI, q_dNT, q_dTN, q_dST, q_dTS, q_ds0, q_dsC, q_dsL, q_dsR, q_fI, q_fB, q_fN, q_fT, q_fS, q_f0, q_fC, q_mVar, q_toDv, q_toDt, q_toDo, q_stOv, q_stOt, q_stOo, q_rvOv, q_rvOt, q_rvOo, q_put, q_addI, q_addT, q_addS, q_subI, q_mulI, q_fdivI, q_modI, q_powI, q_shlI, q_shrI, q_addLtt, q_addLot, q_addLoo, q_neg, q_eq, q_ne, q_eqI, q_eqS, q_eqB, q_eqIB, q_eqBI, q_eqT, q_eqSI, q_eqIS, q_eqIT, q_eqTI, q_eqNI, q_eqIN, q_is, q_isnt, q_isNnon, q_isNint, q_isNbl, q_isNstr, q_isNtup, q_isNref, q_lt, q_gt, q_le, q_leT, q_ge, q_in, q_notin, q_trN, q_trB, q_trI, q_trT, q_trS, q_asB, q_subT, q_subR, q_subO, q_subM, q_nodeO, q_nodeR, q_nodeM, q_cutT, q_cutR, q_revT, q_intOf, q_lstR, q_lstM, q_lstO, q_lenT, q_lenS, q_lenR, q_lenO, q_lenM, q_abs, q_intI, q_intB, q_allM, q_anyM, q_sumM, q_tupT, q_tupM, q_tupO, q_tupR, q_listT, q_listM, q_listR, q_listO, q_isi, q_tyN, q_tyB, q_tyI, q_tyS, q_tyT, q_tyR, q_metOk, q_append, q_pop, q_popI, q_setO, q_setR, q_putO, q_walkT, q_walkM, q_walkR, q_walkO, q_setN, q_setM, q_setV, q_setlO, q_rng1, q_rng2, q_settV, q_settT, q_settO, q_opdV, q_opdN, q_addO, q_appL, q_popL, q_sortT, q_sortM, q_sortR, q_sortO, q_sset, q_max, q_min, q_mulT, q_cutO, q_cutM, q_enT, q_enM, q_inIT, q_inTT, q_inIR, q_eqMM, q_extend, q_insert, q_extL, q_insL, q_allO, q_allR, q_anyO, q_anyR, q_sumO, q_sumR, wl, l9]
      exact (hI _ _).mpr ⟨i + 1, .val (.int i), by omega, rfl, by simp [thT, wsD, Function.comp_def]⟩
  · intro s hs
    obtain ⟨i, x2, hi, hds, rfl⟩ := (hI _ _).mp hs
    have hie : i = n := by
      have := congrArg List.length hds
      simp [upD] at this
      omega
    subst hie
    refine ⟨same_none, ?_⟩
    have l8 := thT_small i (by omega)
    have wl := ws_len (thT i)
    have l9 : (thT i).length ≤ lim := by omega
    have f1 := flat_ws 59 (thT i)
    have f2 := likes_ws (thT i)
    simp [fn_mkF, semSs, semS, sems, sem, mean, ok_seq, ok_thenN, ok_drop, ok_mRet, ok_mPar, ok_bind', ok_bind, ok_pure, ok_pure', ok_val, ok_tmp, ok_bl, ok_ite, ok_call, ok_lc, ok_lc2, ok_op2, ok_cmp, ok_truth, ok_subO, ok_cutO, ok_revO, ok_negO, ok_intOf, ok_bi, ok_meth, ok_metOk, ok_putO, ok_isi, ok_mVar, ok_toD, ok_stO, ok_rvO, ok_asB, ok_settle, ok_mRng, ok_walkO, ok_enumO, ok_ssetO, ok_put, ok_putT, ok_puts0, ok_putsC, ok_setNode, ok_mDs0, ok_mDsC, ok_mOs0, ok_mOsC, ok_mPart0, ok_mPart1, ok_mIfs0, ok_mIfsC, okM_ok, okM_stuck, okM_exc, okM_ite, Ty.below, atI_nat, atI_0, atI_1, atI_2, atI_3, atI_4, atI_5, atI_6, atI_7, atI_last, q_dII, q_dSS, q_dBB, q_dNN, q_dTT, q_dNI, q_dIN, q_dSI, q_dIS, q_dIT, q_dTI, q_dNT, q_dTN, q_dST, q_dTS, q_ds0, q_dsC, q_dsL, q_dsR, q_fI, q_fB, q_fN, q_fT, q_fS, q_f0, q_fC, q_mVar, q_toDv, q_toDt, q_toDo, q_stOv, q_stOt, q_stOo, q_rvOv, q_rvOt, q_rvOo, q_put, q_addI, q_addT, q_addS, q_subI, q_mulI, q_fdivI, q_modI, q_powI, q_shlI, q_shrI, q_addLtt, q_addLot, q_addLoo, q_neg, q_eq, q_ne, q_eqI, q_eqS, q_eqB, q_eqIB, q_eqBI, q_eqT, q_eqSI, q_eqIS, q_eqIT, q_eqTI, q_eqNI, q_eqIN, q_is, q_isnt, q_isNnon, q_isNint, q_isNbl, q_isNstr, q_isNtup, q_isNref, q_lt, q_gt, q_le, q_leT, q_ge, q_in, q_notin, q_trN, q_trB, q_trI, q_trT, q_trS, q_asB, q_subT, q_subR, q_subO, q_subM, q_nodeO, q_nodeR, q_nodeM, q_cutT, q_cutR, q_revT, q_intOf, q_lstR, q_lstM, q_lstO, q_lenT, q_lenS, q_lenR, q_lenO, q_lenM, q_abs, q_intI, q_intB, q_allM, q_anyM, q_sumM, q_tupT, q_tupM, q_tupO, q_tupR, q_listT, q_listM, q_listR, q_listO, q_isi, q_tyN, q_tyB, q_tyI, q_tyS, q_tyT, q_tyR, q_metOk, q_append, q_pop, q_popI, q_setO, q_setR, q_putO, q_walkT, q_walkM, q_walkR, q_walkO, q_setN, q_setM, q_setV, q_setlO, q_rng1, q_rng2, q_settV, q_settT, q_settO, q_opdV, q_opdN, q_addO, q_appL, q_popL, q_sortT, q_sortM, q_sortR, q_sortO, q_sset, q_max, q_min, q_mulT, q_cutO, q_cutM, q_enT, q_enM, q_inIT, q_inTT, q_inIR, q_eqMM, q_extend, q_insert, q_extL, q_insL, q_allO, q_allR, q_anyO, q_anyR, q_sumO, q_sumR, gc_same, f1, f2, wl, l9, srt_K i h0 h1]
/-! ### sorted_worlds -/
def wsW (l : List W) : List D := l.map wD
def SortedWorldsSp (f : FnD) : Prop := ∀ (K : W) (m l : Nat) (h : List Node), h[l]? = some (.lst (wsD K)) → K.length ≤ 8 → m ≤ 5 → f [.ref l, .int m] h = .ret (.node (.lst (wsW (foundL K m)))) h
def irSortedWorlds : ISs := (.cons (.set 2 (.lst (.cons (.tup .nil) .nil)))
  (.cons (.set 3 (.lst (.cons (.tup .nil) .nil)))
  (.cons (.fo (.name 4) (.rng (.cons (.var 1) .nil)) (.cons (.set 3 (.lc2 [5, 6] [6] (.bin .add (.var 5) (.tup (.cons (.var 6) .nil))) (.name 5) (.var 3) .nil (.name 6) (.var 0) (.cons (.or (.not (.var 5)) (.cmp .le (.sub (.var 5) (.neg (.int 1))) (.var 6))) .nil)))
  (.cons (.set 2 (.bin .add (.var 2) (.var 3)))
  .nil)))
  (.cons (.ret (.var 2))
  .nil))))
theorem pow8 {n : Nat} (h : n ≤ 5) : 8 ^ n ≤ 32768 := by
  have := Nat.pow_le_pow_right (n := 8) (by decide) h
  simpa using this
theorem last_ws (w : W) : (wsD w).getLast? = w.getLast?.map tD := by
  unfold wsD; rw [List.getLast?_map]
theorem sortedworlds_sp (T : Tb) : SortedWorldsSp (mkF 7 (semSs T irSortedWorlds)) := by
  intro K m l h hl hK hm
  apply fn_eq
  have hlim := lim_eq
  have smm : small (m : Int) := ⟨by omega, by omega⟩
  simp [irSortedWorlds, fn_mkF, semSs, semS, sems, sem, mean, ok_seq, ok_thenN, ok_drop, ok_mRet, ok_mPar, ok_bind', ok_bind, ok_pure, ok_pure', ok_val, ok_tmp, ok_bl, ok_ite, ok_call, ok_lc, ok_lc2, ok_op2, ok_cmp, ok_truth, ok_subO, ok_cutO, ok_revO, ok_negO, ok_intOf, ok_bi, ok_meth, ok_metOk, ok_putO, ok_isi, ok_mVar, ok_toD, ok_stO, ok_rvO, ok_asB, ok_settle, ok_mRng, ok_walkO, ok_enumO, ok_ssetO, ok_put, ok_putT, ok_puts0, ok_putsC, ok_setNode, ok_mDs0, ok_mDsC, ok_mOs0, ok_mOsC, ok_mPart0, ok_mPart1, ok_mIfs0, ok_mIfsC, okM_ok, okM_stuck, okM_exc, okM_ite, Ty.below, atI_nat, atI_0, atI_1, atI_2, atI_3, atI_4, atI_5, atI_6, atI_7, atI_last, q_dII, q_dSS, q_dBB, q_dNN, q_dTT, q_dNI, q_dIN, q_dSI, q_dIS, q_dIT, q_dTI, q_dNT, q_dTN, q_dST, q_dTS, q_ds0, q_dsC, q_dsL, q_dsR, q_fI, q_fB, q_fN, q_fT, q_fS, q_f0, q_fC, q_mVar, q_toDv, q_toDt, q_toDo, q_stOv, q_stOt, q_stOo, q_rvOv, q_rvOt, q_rvOo, q_put, q_addI, q_addT, q_addS, q_subI, q_mulI, q_fdivI, q_modI, q_powI, q_shlI, q_shrI, q_addLtt, q_addLot, q_addLoo, q_neg, q_eq, q_ne, q_eqI, q_eqS, q_eqB, q_eqIB, q_eqBI, q_eqT, q_eqSI, q_eqIS, q_eqIT, q_eqTI, q_eqNI, q_eqIN, q_is, q_isnt, q_isNnon, q_isNint, q_isNbl, q_isNstr, q_isNtup, q_isNref, q_lt, q_gt, q_le, q_leT, q_ge, q_in, q_notin, q_trN, q_trB, q_trI, q_trT, q_trS, q_asB, q_subT, q_subR, q_subO, q_subM, q_nodeO, q_nodeR, q_nodeM, q_cutT, q_cutR, q_revT, q_intOf, q_lstR, q_lstM, q_lstO, q_lenT, q_lenS, q_lenR, q_lenO, q_lenM, q_abs, q_intI, q_intB, q_allM, q_anyM, q_sumM, q_tupT, q_tupM, q_tupO, q_tupR, q_listT, q_listM, q_listR, q_listO, q_isi, q_tyN, q_tyB, q_tyI, q_tyS, q_tyT, q_tyR, q_metOk, q_append, q_pop, q_popI, q_setO, q_setR, q_putO, q_walkT, q_walkM, q_walkR, q_walkO, q_setN, q_setM, q_setV, q_setlO, q_rng1, q_rng2, q_settV, q_settT, q_settO, q_opdV, q_opdN, q_addO, q_appL, q_popL, q_sortT, q_sortM, q_sortR, q_sortO, q_sset, q_max, q_min, q_mulT, q_cutO, q_cutM, q_enT, q_enM, q_inIT, q_inTT, q_inIR, q_eqMM, q_extend, q_insert, q_extL, q_insL, q_allO, q_allR, q_anyO, q_anyR, q_sumO, q_sumR, smm]
  obtain ⟨I, hI⟩ : ∃ I : List D → St → Prop, ∀ ds s, I ds s ↔ ∃ (i : Nat) (x4 : Slot), i ≤ m ∧ ds = (upD 0 m).drop i ∧ s = ⟨[.val (.ref l), .val (.int m), .own (.lst (wsW (foundL K i))), .own (.lst (wsW (lineL K i))), x4, .unset, .unset], h⟩ := ⟨_, fun _ _ => Iff.rfl⟩
  refine ok_for I ?_ ?_ _ _ ((hI _ _).mpr ⟨0, .unset, by omega, rfl, rfl⟩)
  · intro d ds s hs
    obtain ⟨i, x4, hi, hds, rfl⟩ := (hI _ _).mp hs
    obtain ⟨hin, rfl, rfl⟩ := upD_drop hds.symm
    refine ⟨same_none, ?_⟩
    have ll := lineL_len hK i
    have p8 := pow8 (n := i) (by omega)
    have p8' := pow8 (n := i + 1) (by omega)
    have lf := foundL_len hK i
    have ll2 := lineL_len hK (i + 1)
    simp [fn_mkF, semSs, semS, sems, sem, mean, ok_seq, ok_thenN, ok_drop, ok_mRet, ok_mPar, ok_bind', ok_bind, ok_pure, ok_pure', ok_val, ok_tmp, ok_bl, ok_ite, ok_call, ok_lc, ok_lc2, ok_op2, ok_cmp, ok_truth, ok_subO, ok_cutO, ok_revO, ok_negO, ok_intOf, ok_bi, ok_meth, ok_metOk, ok_putO, ok_isi, ok_mVar, ok_toD, ok_stO, ok_rvO, ok_asB, ok_settle, ok_mRng, ok_walkO, ok_enumO, ok_ssetO, ok_put, ok_putT, ok_puts0, ok_putsC, ok_setNode, ok_mDs0, ok_mDsC, ok_mOs0, ok_mOsC, ok_mPart0, ok_mPart1, ok_mIfs0, ok_mIfsC, okM_ok, okM_stuck, okM_exc, okM_ite, Ty.below, atI_nat, atI_0, atI_1, atI_2, atI_3, atI_4, atI_5, atI_6, atI_7, atI_last, q_dII, q_dSS, q_dBB, q_dNN, q_dTT, q_dNI, q_dIN, q_dSI, q_dIS, q_dIT, q_dTI, q_dNT, q_dTN, q_dST, q_dTS, q_ds0, q_dsC, q_dsL, q_dsR, q_fI, q_fB, q_fN, q_fT, q_fS, q_f0, q_fC, q_mVar, q_toDv, q_toDt, q_toDo, q_stOv, q_stOt, q_stOo, q_rvOv, q_rvOt, q_rvOo, q_put, q_addI, q_addT, q_addS, q_subI, q_mulI, q_fdivI, q_modI, q_powI, q_shlI, q_shrI, q_addLtt, q_addLot, q_addLoo, q_neg, q_eq, q_ne, q_eqI, q_eqS, q_eqB, q_eqIB, q_eqBI, q_eqT, q_eqSI, q_eqIS, q_eqIT, q_eqTI, q_eqNI, q_eqIN, q_is, q_isnt, q_isNnon, q_isNint, q_isNbl, q_isNstr, q_isNtup, q_isNref, q_lt, q_gt, q_le, q_leT, q_ge, q_in, q_notin, q_trN, q_trB, q_trI, q_trT, q_trS, q_asB, q_subT, q_subR, q_subO, q_subM, q_nodeO, q_nodeR, q_nodeM, q_cutT, q_cutR, q_revT, q_intOf, q_lstR, q_lstM, q_lstO, q_lenT, q_lenS, q_lenR, q_lenO, q_lenM, q_abs, q_intI, q_intB, q_allM, q_anyM, q_sumM, q_tupT, q_tupM, q_tupO, q_tupR, q_listT, q_listM, q_listR, q_listO, q_isi, q_tyN, q_tyB, q_tyI, q_tyS, q_tyT, q_tyR, q_metOk, q_append, q_pop, q_popI, q_setO, q_setR, q_putO, q_walkT, q_walkM, q_walkR, q_walkO, q_setN, q_setM, q_setV, q_setlO, q_rng1, q_rng2, q_settV, q_settT, q_settO, q_opdV, q_opdN, q_addO, q_appL, q_popL, q_sortT, q_sortM, q_sortR, q_sortO, q_sset, q_max, q_min, q_mulT, q_cutO, q_cutM, q_enT, q_enM, q_inIT, q_inTT, q_inIR, q_eqMM, q_extend, q_insert, q_extL, q_insL, q_allO, q_allR, q_anyO, q_anyR, q_sumO, q_sumR, wipe]
    refine ok_lc2_of (lineL K i) wD K tD (fun w t => if okNext w t = true then some (wD (w ++ [t])) else none) (own := [5, 6]) (vs1 := [6]) (w := ⟨wsW (lineL K i), some (.own 3, wsW (lineL K i))⟩) (w1 := ⟨wsD K, some (.val (.ref l), wsD K)⟩)
      (sl := [.val (.ref l), .val (.int m), .own (.lst (wsW (foundL K i))), .own (.lst (wsW (lineL K i))), .val (.int i), .unset, .unset]) (hp := h)
      (fun w => [.val (.ref l), .val (.int m), .own (.lst (wsW (foundL K i))), .own (.lst (wsW (lineL K i))), .val (.int i), .val (wD w), .unset]) rfl (lst_same rfl) ?_ rfl (by intro n xs e; cases e) ?_ ?_ ?_ ?_ ?_ ?_
    · have := Nat.mul_le_mul ll hK; omega
    · intro w hw
      simp [wipe, fn_mkF, semSs, semS, sems, sem, mean, ok_seq, ok_thenN, ok_drop, ok_mRet, ok_mPar, ok_bind', ok_bind, ok_pure, ok_pure', ok_val, ok_tmp, ok_bl, ok_ite, ok_call, ok_lc, ok_lc2, ok_op2, ok_cmp, ok_truth, ok_subO, ok_cutO, ok_revO, ok_negO, ok_intOf, ok_bi, ok_meth, ok_metOk, ok_putO, ok_isi, ok_mVar, ok_toD, ok_stO, ok_rvO, ok_asB, ok_settle, ok_mRng, ok_walkO, ok_enumO, ok_ssetO, ok_put, ok_putT, ok_puts0, ok_putsC, ok_setNode, ok_mDs0, ok_mDsC, ok_mOs0, ok_mOsC, ok_mPart0, ok_mPart1, ok_mIfs0, ok_mIfsC, okM_ok, okM_stuck, okM_exc, okM_ite, Ty.below, atI_nat, atI_0, atI_1, atI_2, atI_3, atI_4, atI_5, atI_6, atI_7, atI_last, q_dII, q_dSS, q_dBB, q_dNN, q_dTT, q_dNI, q_dIN, q_dSI, q_dIS, q_dIT, q_dTI, q_dNT, q_dTN, q_dST, q_dTS, q_ds0, q_dsC, q_dsL, q_dsR, q_fI, q_fB, q_fN, q_fT, q_fS, q_f0, q_fC, q_mVar, q_toDv, q_toDt, q_toDo, q_stOv, q_stOt, q_stOo, q_rvOv, q_rvOt, q_rvOo, q_put, q_addI, q_addT, q_addS, q_subI, q_mulI, q_fdivI, q_modI, q_powI, q_shlI, q_shrI, q_addLtt, q_addLot, q_addLoo, q_neg, q_eq, q_ne, q_eqI, q_eqS, q_eqB, q_eqIB, q_eqBI, q_eqT, q_eqSI, q_eqIS, q_eqIT, q_eqTI, q_eqNI, q_eqIN, q_is, q_isnt, q_isNnon, q_isNint, q_isNbl, q_isNstr, q_isNtup, q_isNref, q_lt, q_gt, q_le, q_leT, q_ge, q_in, q_notin, q_trN, q_trB, q_trI, q_trT, q_trS, q_asB, q_subT, q_subR, q_subO, q_subM, q_nodeO, q_nodeR, q_nodeM, q_cutT, q_cutR, q_revT, q_intOf, q_lstR, q_lstM, q_lstO, q_lenT, q_lenS, q_lenR, q_lenO, q_lenM, q_abs, q_intI, q_intB, q_allM, q_anyM, q_sumM, q_tupT, q_tupM, q_tupO, q_tupR, q_listT, q_listM, q_listR, q_listO, q_isi, q_tyN, q_tyB, q_tyI, q_tyS, q_tyT, q_tyR, q_metOk, q_append, q_pop, q_popI, q_setO, q_setR, q_putO, q_walkT, q_walkM, q_walkR, q_walkO, q_setN, q_setM, q_setV, q_setlO, q_rng1, q_rng2, q_settV, q_settT, q_settO, q_opdV, q_opdN, q_addO, q_appL, q_popL, q_sortT, q_sortM, q_sortR, q_sortO, q_sset, q_max, q_min, q_mulT, q_cutO, q_cutM, q_enT, q_enM, q_inIT, q_inTT, q_inIR, q_eqMM, q_extend, q_insert, q_extL, q_insL, q_allO, q_allR, q_anyO, q_anyR, q_sumO, q_sumR]
    · intro w hw
      have : (mVar 0 >>= walkO) ⟨[.val (.ref l), .val (.int m), .own (.lst (wsW (foundL K i))), .own (.lst (wsW (lineL K i))), .val (.int i), .val (wD w), .unset], h⟩ = walkO (.val (.ref l)) ⟨[.val (.ref l), .val (.int m), .own (.lst (wsW (foundL K i))), .own (.lst (wsW (lineL K i))), .val (.int i), .val (wD w), .unset], h⟩ := rfl
      rw [this, q_walkR, q_lstR, hl]
    · intro w hw; exact ref_same hl
    · intro w hw; rfl
    · intro w hw t ht
      have lw := (lineL_ok i w hw).1
      have wl := ws_len w
      have l1 : w.length + 1 ≤ lim := by omega
      have lst := last_ws w
      cases hg : w.getLast? with
      | none =>
        have : w = [] := List.getLast?_eq_none_iff.mp hg
        subst this
        simp [wipe, wD, wsD, fn_mkF, semSs, semS, sems, sem, mean, ok_seq, ok_thenN, ok_drop, ok_mRet, ok_mPar, ok_bind', ok_bind, ok_pure, ok_pure', ok_val, ok_tmp, ok_bl, ok_ite, ok_call, ok_lc, ok_lc2, ok_op2, ok_cmp, ok_truth, ok_subO, ok_cutO, ok_revO, ok_negO, ok_intOf, ok_bi, ok_meth, ok_metOk, ok_putO, ok_isi, ok_mVar, ok_toD, ok_stO, ok_rvO, ok_asB, ok_settle, ok_mRng, ok_walkO, ok_enumO, ok_ssetO, ok_put, ok_putT, ok_puts0, ok_putsC, ok_setNode, ok_mDs0, ok_mDsC, ok_mOs0, ok_mOsC, ok_mPart0, ok_mPart1, ok_mIfs0, ok_mIfsC, okM_ok, okM_stuck, okM_exc, okM_ite, Ty.below, atI_nat, atI_0, atI_1, atI_2, atI_3, atI_4, atI_5, atI_6, atI_7, atI_last, q_dII, q_dSS, q_dBB, q_dNN, q_dTT, q_dNI, q_dIN, q_dSI, q_dIS, q_dIT, q_dTI, q_dNT, q_dTN, q_dST, q_dTS, q_ds0, q_dsC, q_dsL, q_dsR, q_fI, q_fB, q_fN, q_fT, q_fS, q_f0, q_fC, q_mVar, q_toDv, q_toDt, q_toDo, q_stOv, q_stOt, q_stOo, q_rvOv, q_rvOt, q_rvOo, q_put, q_addI, q_addT, q_addS, q_subI, q_mulI, q_fdivI, q_modI, q_powI, q_shlI, q_shrI, q_addLtt, q_addLot, q_addLoo, q_neg, q_eq, q_ne, q_eqI, q_eqS, q_eqB, q_eqIB, q_eqBI, q_eqT, q_eqSI, q_eqIS, q_eqIT, q_eqTI, q_eqNI, q_eqIN, q_is, q_isnt, q_isNnon, q_isNint, q_isNbl, q_isNstr, q_isNtup, q_isNref, q_lt, q_gt, q_le, q_leT, q_ge, q_in, q_notin, q_trN, q_trB, q_trI, q_trT, q_trS, q_asB, q_subT, q_subR, q_subO, q_subM, q_nodeO, q_nodeR, q_nodeM, q_cutT, q_cutR, q_revT, q_intOf, q_lstR, q_lstM, q_lstO, q_lenT, q_lenS, q_lenR, q_lenO, q_lenM, q_abs, q_intI, q_intB, q_allM, q_anyM, q_sumM, q_tupT, q_tupM, q_tupO, q_tupR, q_listT, q_listM, q_listR, q_listO, q_isi, q_tyN, q_tyB, q_tyI, q_tyS, q_tyT, q_tyR, q_metOk, q_append, q_pop, q_popI, q_setO, q_setR, q_putO, q_walkT, q_walkM, q_walkR, q_walkO, q_setN, q_setM, q_setV, q_setlO, q_rng1, q_rng2, q_settV, q_settT, q_settO, q_opdV, q_opdN, q_addO, q_appL, q_popL, q_sortT, q_sortM, q_sortR, q_sortO, q_sset, q_max, q_min, q_mulT, q_cutO, q_cutM, q_enT, q_enM, q_inIT, q_inTT, q_inIR, q_eqMM, q_extend, q_insert, q_extL, q_insL, q_allO, q_allR, q_anyO, q_anyR, q_sumO, q_sumR, okNext, show 1 ≤ lim by omega]
      | some u =>
        rw [hg] at lst
        have hne : wsD w ≠ [] := fun z => by rw [z] at lst; cases lst
        have hnw : w ≠ [] := fun z => by rw [z] at hg; cases hg
        have e1 : (wsD w).isEmpty = false := by simpa using hne
        have f1 := flat_ints 59 u
        have f2 := flat_ints 59 t
        have f3 := like_ints t u
        have f4 := ltL_ints t u
        have eo : okNext w t = !ltT t u := by unfold okNext; rw [hg]
        cases hc : ltT t u with
        | true =>
          rw [hc] at f4
          simp [wipe, wD, fn_mkF, semSs, semS, sems, sem, mean, ok_seq, ok_thenN, ok_drop, ok_mRet, ok_mPar, ok_bind', ok_bind, ok_pure, ok_pure', ok_val, ok_tmp, ok_bl, ok_ite, ok_call, ok_lc, ok_lc2, ok_op2, ok_cmp, ok_truth, ok_subO, ok_cutO, ok_revO, ok_negO, ok_intOf, ok_bi, ok_meth, ok_metOk, ok_putO, ok_isi, ok_mVar, ok_toD, ok_stO, ok_rvO, ok_asB, ok_settle, ok_mRng, ok_walkO, ok_enumO, ok_ssetO, ok_put, ok_putT, ok_puts0, ok_putsC, ok_setNode, ok_mDs0, ok_mDsC, ok_mOs0, ok_mOsC, ok_mPart0, ok_mPart1, ok_mIfs0, ok_mIfsC, okM_ok, okM_stuck, okM_exc, okM_ite, Ty.below, atI_nat, atI_0, atI_1, atI_2, atI_3, atI_4, atI_5, atI_6, atI_7, atI_last, q_dII, q_dSS, q_dBB, q_dNN, q_dTT, q_dNI, q_dIN, q_dSI, q_dIS, q_dIT, q_dTI, q_dNT, q_dTN, q_dST, q_dTS, q_ds0, q_dsC, q_dsL, q_dsR, q_fI, q_fB, q_fN, q_fT, q_fS, q_f0, q_fC, q_mVar, q_toDv, q_toDt, q_toDo, q_stOv, q_stOt, q_stOo, q_rvOv, q_rvOt, q_rvOo, q_put, q_addI, q_addT, q_addS, q_subI, q_mulI, q_fdivI, q_modI, q_powI, q_shlI, q_shrI, q_addLtt, q_addLot, q_addLoo, q_neg, q_eq, q_ne, q_eqI, q_eqS, q_eqB, q_eqIB, q_eqBI, q_eqT, q_eqSI, q_eqIS, q_eqIT, q_eqTI, q_eqNI, q_eqIN, q_is, q_isnt, q_isNnon, q_isNint, q_isNbl, q_isNstr, q_isNtup, q_isNref, q_lt, q_gt, q_le, q_leT, q_ge, q_in, q_notin, q_trN, q_trB, q_trI, q_trT, q_trS, q_asB, q_subT, q_subR, q_subO, q_subM, q_nodeO, q_nodeR, q_nodeM, q_cutT, q_cutR, q_revT, q_intOf, q_lstR, q_lstM, q_lstO, q_lenT, q_lenS, q_lenR, q_lenO, q_lenM, q_abs, q_intI, q_intB, q_allM, q_anyM, q_sumM, q_tupT, q_tupM, q_tupO, q_tupR, q_listT, q_listM, q_listR, q_listO, q_isi, q_tyN, q_tyB, q_tyI, q_tyS, q_tyT, q_tyR, q_metOk, q_append, q_pop, q_popI, q_setO, q_setR, q_putO, q_walkT, q_walkM, q_walkR, q_walkO, q_setN, q_setM, q_setV, q_setlO, q_rng1, q_rng2, q_settV, q_settT, q_settO, q_opdV, q_opdN, q_addO, q_appL, q_popL, q_sortT, q_sortM, q_sortR, q_sortO, q_sset, q_max, q_min, q_mulT, q_cutO, q_cutM, q_enT, q_enM, q_inIT, q_inTT, q_inIR, q_eqMM, q_extend, q_insert, q_extL, q_insL, q_allO, q_allR, q_anyO, q_anyR, q_sumO, q_sumR, e1, hne, lst, tD, f1, f2, f3, f4, eo, hc]
        | false =>
          rw [hc] at f4
          simp [wipe, wD, fn_mkF, semSs, semS, sems, sem, mean, ok_seq, ok_thenN, ok_drop, ok_mRet, ok_mPar, ok_bind', ok_bind, ok_pure, ok_pure', ok_val, ok_tmp, ok_bl, ok_ite, ok_call, ok_lc, ok_lc2, ok_op2, ok_cmp, ok_truth, ok_subO, ok_cutO, ok_revO, ok_negO, ok_intOf, ok_bi, ok_meth, ok_metOk, ok_putO, ok_isi, ok_mVar, ok_toD, ok_stO, ok_rvO, ok_asB, ok_settle, ok_mRng, ok_walkO, ok_enumO, ok_ssetO, ok_put, ok_putT, ok_puts0, ok_putsC, ok_setNode, ok_mDs0, ok_mDsC, ok_mOs0, ok_mOsC, ok_mPart0, ok_mPart1, ok_mIfs0, ok_mIfsC, okM_ok, okM_stuck, okM_exc, okM_ite, Ty.below, atI_nat, atI_0, atI_1, atI_2, atI_3, atI_4, atI_5, atI_6, atI_7, atI_last, q_dII, q_dSS, q_dBB, q_dNN, q_dTT, q_dNI, q_dIN, q_dSI, q_dIS, q_dIT, q_dTI, q_dNT, q_dTN, q_dST, q_dTS, q_ds0, q_dsC, q_dsL, q_dsR, q_fI, q_fB, q_fN, q_fT, q_fS, q_f0, q_fC, q_mVar, q_toDv, q_toDt, q_toDo, q_stOv, q_stOt, q_stOo, q_rvOv, q_rvOt, q_rvOo, q_put, q_addI, q_addT, q_addS, q_subI, q_mulI, q_fdivI, q_modI, q_powI, q_shlI, q_shrI, q_addLtt, q_addLot, q_addLoo, q_neg, q_eq, q_ne, q_eqI, q_eqS, q_eqB, q_eqIB, q_eqBI, q_eqT, q_eqSI, q_eqIS, q_eqIT, q_eqTI, q_eqNI, q_eqIN, q_is, q_isnt, q_isNnon, q_isNint, q_isNbl, q_isNstr, q_isNtup, q_isNref, q_lt, q_gt, q_le, q_leT, q_ge, q_in, q_notin, q_trN, q_trB, q_trI, q_trT, q_trS, q_asB, q_subT, q_subR, q_subO, q_subM, q_nodeO, q_nodeR, q_nodeM, q_cutT, q_cutR, q_revT, q_intOf, q_lstR, q_lstM, q_lstO, q_lenT, q_lenS, q_lenR, q_lenO, q_lenM, q_abs, q_intI, q_intB, q_allM, q_anyM, q_sumM, q_tupT, q_tupM, q_tupO, q_tupR, q_listT, q_listM, q_listR, q_listO, q_isi, q_tyN, q_tyB, q_tyI, q_tyS, q_tyT, q_tyR, q_metOk, q_append, q_pop, q_popI, q_setO, q_setR, q_putO, q_walkT, q_walkM, q_walkR, q_walkO, q_setN, q_setM, q_setV, q_setlO, q_rng1, q_rng2, q_settV, q_settT, q_settO, q_opdV, q_opdN, q_addO, q_appL, q_popL, q_sortT, q_sortM, q_sortR, q_sortO, q_sset, q_max, q_min, q_mulT, q_cutO, q_cutM, q_enT, q_enM, q_inIT, q_inTT, q_inIR, q_eqMM, q_extend, q_insert, q_extL, q_insL, q_allO, q_allR, q_anyO, q_anyR, q_sumO, q_sumR, e1, hne, lst, tD, f1, f2, f3, f4, wl, l1, eo, hc, ws_app]
          simp [wsD, tD]
    · have er : ((lineL K i).flatMap fun w => K.filterMap fun t => if okNext w t = true then some (wD (w ++ [t])) else none) = wsW (lineL K (i + 1)) := by
        simp only [wsW, lineL, stepL]
        rw [List.map_flatMap]
        refine congrArg (fun g => List.flatMap g (lineL K i)) (funext fun w => ?_)
        rw [List.map_filterMap]
        refine congrArg (fun g => List.filterMap g K) (funext fun t => ?_)
        generalize okNext w t = b
        cases b <;> rfl
      rw [er]
      have l3 : (wsW (foundL K i)).length + (wsW (lineL K (i + 1))).length ≤ lim := by simp only [wsW, List.length_map]; omega
      simp [wipe, unwipe, fn_mkF, semSs, semS, sems, sem, mean, ok_seq, ok_thenN, ok_drop, ok_mRet, ok_mPar, ok_bind', ok_bind, ok_pure, ok_pure', ok_val, ok_tmp, ok_bl, ok_ite, ok_call, ok_lc, ok_lc2, ok_op2, ok_cmp, ok_truth, ok_subO, ok_cutO, ok_revO, ok_negO, ok_intOf, ok_bi, ok_meth, ok_metOk, ok_putO, ok_isi, ok_mVar, ok_toD, ok_stO, ok_rvO, ok_asB, ok_settle, ok_mRng, ok_walkO, ok_enumO, ok_ssetO, ok_put, ok_putT, ok_puts0, ok_putsC, ok_setNode, ok_mDs0, ok_mDsC, ok_mOs0, ok_mOsC, ok_mPart0, ok_mPart1, ok_mIfs0, ok_mIfsC, okM_ok, okM_stuck, okM_exc, okM_ite, Ty.below, atI_nat, atI_0, atI_1, atI_2, atI_3, atI_4, atI_5, atI_6, atI_7, atI_last, q_dII, q_dSS, q_dBB, q_dNN, q_dTT, q_dNI, q_dIN, q_dSI, q_dIS, q_dIT, q_dTI, q_dNT, q_dTN, q_dST, q_dTS, q_ds0, q_dsC, q_dsL, q_dsR, q_fI, q_fB, q_fN, q_fT, q_fS, q_f0, q_fC, q_mVar, q_toDv, q_toDt, q_toDo, q_stOv, q_stOt, q_stOo, q_rvOv, q_rvOt, q_rvOo, q_put, q_addI, q_addT, q_addS, q_subI, q_mulI, q_fdivI, q_modI, q_powI, q_shlI, q_shrI, q_addLtt, q_addLot, q_addLoo, q_neg, q_eq, q_ne, q_eqI, q_eqS, q_eqB, q_eqIB, q_eqBI, q_eqT, q_eqSI, q_eqIS, q_eqIT, q_eqTI, q_eqNI, q_eqIN, q_is, q_isnt, q_isNnon, q_isNint, q_isNbl, q_isNstr, q_isNtup, q_isNref, q_lt, q_gt, q_le, q_leT, q_ge, q_in, q_notin, q_trN, q_trB, q_trI, q_trT, q_trS, q_asB, q_subT, q_subR, q_subO, q_subM, q_nodeO, q_nodeR, q_nodeM, q_cutT, q_cutR, q_revT, q_intOf, q_lstR, q_lstM, q_lstO, q_lenT, q_lenS, q_lenR, q_lenO, q_lenM, q_abs, q_intI, q_intB, q_allM, q_anyM, q_sumM, q_tupT, q_tupM, q_tupO, q_tupR, q_listT, q_listM, q_listR, q_listO, q_isi, q_tyN, q_tyB, q_tyI, q_tyS, q_tyT, q_tyR, q_metOk, q_append, q_pop, q_popI, q_setO, q_setR, q_putO, q_walkT, q_walkM, q_walkR, q_walkO, q_setN, q_setM, q_setV, q_setlO, q_rng1, q_rng2, q_settV, q_settT, q_settO, q_opdV, q_opdN, q_addO, q_appL, q_popL, q_sortT, q_sortM, q_sortR, q_sortO, q_sset, q_max, q_min, q_mulT, q_cutO, q_cutM, q_enT, q_enM, q_inIT, q_inTT, q_inIR, q_eqMM, q_extend, q_insert, q_extL, q_insL, q_allO, q_allR, q_anyO, q_anyR, q_sumO, q_sumR, l3]
      exact (hI _ _).mpr ⟨i + 1, .val (.int i), by omega, rfl, by simp [foundL, wsW]⟩
  · intro s hs
    obtain ⟨i, x4, hi, hds, rfl⟩ := (hI _ _).mp hs
    have hie : i = m := by
      have := congrArg List.length hds
      simp [upD] at this
      omega
    subst hie
    refine ⟨same_none, ?_⟩
    simp [fn_mkF, semSs, semS, sems, sem, mean, ok_seq, ok_thenN, ok_drop, ok_mRet, ok_mPar, ok_bind', ok_bind, ok_pure, ok_pure', ok_val, ok_tmp, ok_bl, ok_ite, ok_call, ok_lc, ok_lc2, ok_op2, ok_cmp, ok_truth, ok_subO, ok_cutO, ok_revO, ok_negO, ok_intOf, ok_bi, ok_meth, ok_metOk, ok_putO, ok_isi, ok_mVar, ok_toD, ok_stO, ok_rvO, ok_asB, ok_settle, ok_mRng, ok_walkO, ok_enumO, ok_ssetO, ok_put, ok_putT, ok_puts0, ok_putsC, ok_setNode, ok_mDs0, ok_mDsC, ok_mOs0, ok_mOsC, ok_mPart0, ok_mPart1, ok_mIfs0, ok_mIfsC, okM_ok, okM_stuck, okM_exc, okM_ite, Ty.below, atI_nat, atI_0, atI_1, atI_2, atI_3, atI_4, atI_5, atI_6, atI_7, atI_last, q_dII, q_dSS, q_dBB, q_dNN, q_dTT, q_dNI, q_dIN, q_dSI, q_dIS, q_dIT, q_dTI, q_dNT, q_dTN, q_dST, q_dTS, q_ds0, q_dsC, q_dsL, q_dsR, q_fI, q_fB, q_fN, q_fT, q_fS, q_f0, q_fC, q_mVar, q_toDv, q_toDt, q_toDo, q_stOv, q_stOt, q_stOo, q_rvOv, q_rvOt, q_rvOo, q_put, q_addI, q_addT, q_addS, q_subI, q_mulI, q_fdivI, q_modI, q_powI, q_shlI, q_shrI, q_addLtt, q_addLot, q_addLoo, q_neg, q_eq, q_ne, q_eqI, q_eqS, q_eqB, q_eqIB, q_eqBI, q_eqT, q_eqSI, q_eqIS, q_eqIT, q_eqTI, q_eqNI, q_eqIN, q_is, q_isnt, q_isNnon, q_isNint, q_isNbl, q_isNstr, q_isNtup, q_isNref, q_lt, q_gt, q_le, q_leT, q_ge, q_in, q_notin, q_trN, q_trB, q_trI, q_trT, q_trS, q_asB, q_subT, q_subR, q_subO, q_subM, q_nodeO, q_nodeR, q_nodeM, q_cutT, q_cutR, q_revT, q_intOf, q_lstR, q_lstM, q_lstO, q_lenT, q_lenS, q_lenR, q_lenO, q_lenM, q_abs, q_intI, q_intB, q_allM, q_anyM, q_sumM, q_tupT, q_tupM, q_tupO, q_tupR, q_listT, q_listM, q_listR, q_listO, q_isi, q_tyN, q_tyB, q_tyI, q_tyS, q_tyT, q_tyR, q_metOk, q_append, q_pop, q_popI, q_setO, q_setR, q_putO, q_walkT, q_walkM, q_walkR, q_walkO, q_setN, q_setM, q_setV, q_setlO, q_rng1, q_rng2, q_settV, q_settT, q_settO, q_opdV, q_opdN, q_addO, q_appL, q_popL, q_sortT, q_sortM, q_sortR, q_sortO, q_sset, q_max, q_min, q_mulT, q_cutO, q_cutM, q_enT, q_enM, q_inIT, q_inTT, q_inIR, q_eqMM, q_extend, q_insert, q_extL, q_insL, q_allO, q_allR, q_anyO, q_anyR, q_sumO, q_sumR, gc_same]
end G

/-! G10: all worlds of a book. -/
set_option linter.all false
set_option maxRecDepth 100000
set_option Elab.async false
set_option autoImplicit false
set_option maxHeartbeats 0
namespace G
open PySem Y
theorem likeL_ws : ∀ a b : W, D.likeL (wsD a) (wsD b) = true
  | [], b => by cases b <;> simp [wsD, D.likeL]
  | s :: a, [] => by simp [wsD, D.likeL]
  | s :: a, t :: b => by
    have := likeL_ws a b
    simp only [wsD] at this
    simp only [wsD, List.map_cons, D.likeL, like_t, this, Bool.and_self]
theorem like_w (a b : W) : D.like (wD a) (wD b) = true := by simp only [wD, D.like]; exact likeL_ws a b
theorem flat_w (k : Nat) (w : W) : D.flat (k + 2) (wD w) = true := by unfold wD; rw [q_fT]; exact flat_ws k w
theorem flat_W (k : Nat) (l : List W) : D.flats (k + 2) (wsW l) = true := flatsOf fun x hx => by
  obtain ⟨w, _, rfl⟩ := List.mem_map.mp hx
  exact flat_w k w
theorem likes_W (l : List W) : D.likes (wsW l) = true := by
  unfold D.likes
  rw [List.all_eq_true]
  intro x hx
  rw [List.all_eq_true]
  intro y hy
  obtain ⟨a, _, rfl⟩ := List.mem_map.mp hx
  obtain ⟨b, _, rfl⟩ := List.mem_map.mp hy
  exact like_w a b
theorem fit_W (l : List W) : Fit (wsW l) := fit_of (flat_W 58 l) (likes_W l)
theorem srt_self {l : List D} (F : Fit l) (h : l.Pairwise fun a b => dle a b = true) : D.srt l = l :=
  srt_uniq (srt_perm l) (srt_srtd F l fun _ z => z) h fun a ha b hb => fit_anti F a ((srt_perm l).mem_iff.mp ha) b ((srt_perm l).mem_iff.mp hb)
theorem perm_W : ∀ (F : List W) (l : List D), l.Perm (wsW F) → ∃ G : List W, G.Perm F ∧ l = wsW G
  | [], l, p => ⟨[], .refl _, List.perm_nil.mp p⟩
  | a :: F, l, p => by
    have ha : wD a ∈ l := p.mem_iff.mpr (by simp [wsW])
    obtain ⟨s, t, rfl⟩ := List.append_of_mem ha
    have p2 : (s ++ t).Perm (wsW F) := by
      have : (wD a :: (s ++ t)).Perm (wD a :: wsW F) := List.perm_middle.symm.trans p
      exact this.cons_inv
    obtain ⟨G, pG, eG⟩ := perm_W F (s ++ t) p2
    obtain ⟨g1, g2, rfl, e1, e2⟩ := List.append_eq_map_iff.mp eG
    refine ⟨g1 ++ a :: g2, List.perm_middle.trans (pG.cons a), ?_⟩
    simp only [wsW, List.map_append, List.map_cons, e1, e2]
theorem srtW (F : List W) : ∃ G : List W, D.srt (wsW F) = wsW G ∧ G.Perm F ∧ ∀ p : W → Bool, D.srt (wsW (F.filter p)) = wsW (G.filter p) := by
  obtain ⟨G, pG, eG⟩ := perm_W F _ (srt_perm (wsW F))
  have hs := srt_srtd (fit_W F) (wsW F) fun _ z => z
  rw [eG] at hs
  refine ⟨G, eG, pG, fun p => ?_⟩
  have hsub : (wsW (G.filter p)).Sublist (wsW G) := List.Sublist.map wD List.filter_sublist
  rw [← srt_self (fit_W (G.filter p)) (hs.sublist hsub)]
  exact srt_of_perm (fit_W (G.filter p)) ((pG.symm.filter p).map wD)
def goodW (ss : List Sen) (w : W) : Bool := ss.all (holdsW w)
def worldsOf (n m : Nat) (ss : List Sen) : List W := (foundL (thK n) m).filter (goodW ss)
def AllWorldsSp (f : FnD) : Prop := ∀ (n m : Nat) (names : List D) (ss : List Sen) (h : List Node), names.length = n → 1 ≤ n → n ≤ 3 → m ≤ 5 → ss.length ≤ lim → ∀ {Q : RV → List Node → Prop},
  (∀ x, Q (.val (.tup (D.srt (wsW (worldsOf n m ss))))) (h ++ x)) → Fn f [bk names ss, .int m] h Q
def irAllWorlds : ISs := (.cons (.set 2 (.call 175 (.cons (.call 5 (.cons (.bi .len (.cons (.sub (.var 0) (.int 0)) .nil)) .nil)) (.cons (.var 1) .nil))))
  (.cons (.ret (.bi .tuple (.cons (.bi .sorted (.cons (.lc [3] (.var 3) (.name 3) (.var 2) (.cons (.not (.call 25 (.cons (.var 0) (.cons (.var 3) .nil)))) .nil)) .nil)) .nil)))
  .nil))
theorem found_small {n m : Nat} (h0 : 1 ≤ n) (h1 : n ≤ 3) (hm : m ≤ 5) : (foundL (thK n) m).length ≤ 65536 := by
  have := foundL_len (asc_K n h0 h1).2.1 m
  have := pow8 hm
  omega
theorem wsW_len (l : List W) : (wsW l).length = l.length := by simp [wsW]
theorem allworlds_sp {T : Tb} (at_ : AllThingsSp (T.fn 5)) (sw : SortedWorldsSp (T.fn 175)) (br : BrokenSp (T.fn 25)) : AllWorldsSp (mkF 4 (semSs T irAllWorlds)) := by
  intro n m names ss h hn h0 h1 hm hl Q q
  subst hn
  have hlim := lim_eq
  have fs := found_small h0 h1 hm
  have a1 := at_ names.length h h0 h1
  have a2 := sw (thK names.length) m h.length (h ++ [.lst (wsD (thK names.length))]) (by simp) (asc_K _ h0 h1).2.1 hm
  simp [irAllWorlds, bk, fn_mkF, semSs, semS, sems, sem, mean, ok_seq, ok_thenN, ok_drop, ok_mRet, ok_mPar, ok_bind', ok_bind, ok_pure, ok_pure', ok_val, ok_tmp, ok_bl, ok_ite, ok_call, ok_lc, ok_lc2, ok_op2, ok_cmp, ok_truth, ok_subO, ok_cutO, ok_revO, ok_negO, ok_intOf, ok_bi, ok_meth, ok_metOk, ok_putO, ok_isi, ok_mVar, ok_toD, ok_stO, ok_rvO, ok_asB, ok_settle, ok_mRng, ok_walkO, ok_enumO, ok_ssetO, ok_put, ok_putT, ok_puts0, ok_putsC, ok_setNode, ok_mDs0, ok_mDsC, ok_mOs0, ok_mOsC, ok_mPart0, ok_mPart1, ok_mIfs0, ok_mIfsC, okM_ok, okM_stuck, okM_exc, okM_ite, Ty.below, atI_nat, atI_0, atI_1, atI_2, atI_3, atI_4, atI_5, atI_6, atI_7, atI_last, q_dII, q_dSS, q_dBB, q_dNN, q_dTT, q_dNI, q_dIN, q_dSI, q_dIS, q_dIT, q_dTI, q_dNT, q_dTN, q_dST, q_dTS, q_ds0, q_dsC, q_dsL, q_dsR, q_fI, q_fB, q_fN, q_fT, q_fS, q_f0, q_fC, q_mVar, q_toDv, q_toDt, q_toDo, q_stOv, q_stOt, q_stOo, q_rvOv, q_rvOt, q_rvOo, q_put, q_addI, q_addT, q_addS, q_subI, q_mulI, q_fdivI, q_modI, q_powI, q_shlI, q_shrI, q_addLtt, q_addLot, q_addLoo, q_neg, q_eq, q_ne, q_eqI, q_eqS, q_eqB, q_eqIB, q_eqBI, q_eqT, q_eqSI, q_eqIS, q_eqIT, q_eqTI, q_eqNI, q_eqIN, q_is, q_isnt, q_isNnon, q_isNint, q_isNbl, q_isNstr, q_isNtup, q_isNref, q_lt, q_gt, q_le, q_leT, q_ge, q_in, q_notin, q_trN, q_trB, q_trI, q_trT, q_trS, q_asB, q_subT, q_subR, q_subO, q_subM, q_nodeO, q_nodeR, q_nodeM, q_cutT, q_cutR, q_revT, q_intOf, q_lstR, q_lstM, q_lstO, q_lenT, q_lenS, q_lenR, q_lenO, q_lenM, q_abs, q_intI, q_intB, q_allM, q_anyM, q_sumM, q_tupT, q_tupM, q_tupO, q_tupR, q_listT, q_listM, q_listR, q_listO, q_isi, q_tyN, q_tyB, q_tyI, q_tyS, q_tyT, q_tyR, q_metOk, q_append, q_pop, q_popI, q_setO, q_setR, q_putO, q_walkT, q_walkM, q_walkR, q_walkO, q_setN, q_setM, q_setV, q_setlO, q_rng1, q_rng2, q_settV, q_settT, q_settO, q_opdV, q_opdN, q_addO, q_appL, q_popL, q_sortT, q_sortM, q_sortR, q_sortO, q_sset, q_max, q_min, q_mulT, q_cutO, q_cutM, q_enT, q_enM, q_inIT, q_inTT, q_inIR, q_eqMM, q_extend, q_insert, q_extL, q_insL, q_allO, q_allR, q_anyO, q_anyR, q_sumO, q_sumR, fn_ret a1, fn_ret a2, wipe]
  refine ok_lc_of (foundL (thK names.length) m) wD (fun w => if goodW ss w = true then some (wD w) else none) (w := ⟨wsW (foundL (thK names.length) m), some (.own 2, wsW (foundL (thK names.length) m))⟩) (own := [3]) (sl := [.val (.tup [.tup names, .tup (ss.map Sen.d)]), .val (.int m), .own (.lst (wsW (foundL (thK names.length) m))), .unset]) rfl (lst_same rfl) (by omega) (fun w hw => ?_) ?_
  · have wl := (foundL_ok m w hw).1
    obtain ⟨xs, ex, ee⟩ := br names ss w (wD w) (h ++ [.lst (wsD (thK names.length))]) (.inl rfl) (by omega) hl
    have ex' : T.fn 25 [.tup [.tup names, .tup (ss.map Sen.d)], wD w] (h ++ [.lst (wsD (thK names.length))]) = .ret (.val (.tup xs)) (h ++ [.lst (wsD (thK names.length))]) := ex
    by_cases hg : goodW ss w = true
    · have hx : xs = [] := by
        have : xs.isEmpty = true := by rw [ee]; exact hg
        simpa using this
      subst hx
      simp [wipe, fn_mkF, semSs, semS, sems, sem, mean, ok_seq, ok_thenN, ok_drop, ok_mRet, ok_mPar, ok_bind', ok_bind, ok_pure, ok_pure', ok_val, ok_tmp, ok_bl, ok_ite, ok_call, ok_lc, ok_lc2, ok_op2, ok_cmp, ok_truth, ok_subO, ok_cutO, ok_revO, ok_negO, ok_intOf, ok_bi, ok_meth, ok_metOk, ok_putO, ok_isi, ok_mVar, ok_toD, ok_stO, ok_rvO, ok_asB, ok_settle, ok_mRng, ok_walkO, ok_enumO, ok_ssetO, ok_put, ok_putT, ok_puts0, ok_putsC, ok_setNode, ok_mDs0, ok_mDsC, ok_mOs0, ok_mOsC, ok_mPart0, ok_mPart1, ok_mIfs0, ok_mIfsC, okM_ok, okM_stuck, okM_exc, okM_ite, Ty.below, atI_nat, atI_0, atI_1, atI_2, atI_3, atI_4, atI_5, atI_6, atI_7, atI_last, q_dII, q_dSS, q_dBB, q_dNN, q_dTT, q_dNI, q_dIN, q_dSI, q_dIS, q_dIT, q_dTI, q_dNT, q_dTN, q_dST, q_dTS, q_ds0, q_dsC, q_dsL, q_dsR, q_fI, q_fB, q_fN, q_fT, q_fS, q_f0, q_fC, q_mVar, q_toDv, q_toDt, q_toDo, q_stOv, q_stOt, q_stOo, q_rvOv, q_rvOt, q_rvOo, q_put, q_addI, q_addT, q_addS, q_subI, q_mulI, q_fdivI, q_modI, q_powI, q_shlI, q_shrI, q_addLtt, q_addLot, q_addLoo, q_neg, q_eq, q_ne, q_eqI, q_eqS, q_eqB, q_eqIB, q_eqBI, q_eqT, q_eqSI, q_eqIS, q_eqIT, q_eqTI, q_eqNI, q_eqIN, q_is, q_isnt, q_isNnon, q_isNint, q_isNbl, q_isNstr, q_isNtup, q_isNref, q_lt, q_gt, q_le, q_leT, q_ge, q_in, q_notin, q_trN, q_trB, q_trI, q_trT, q_trS, q_asB, q_subT, q_subR, q_subO, q_subM, q_nodeO, q_nodeR, q_nodeM, q_cutT, q_cutR, q_revT, q_intOf, q_lstR, q_lstM, q_lstO, q_lenT, q_lenS, q_lenR, q_lenO, q_lenM, q_abs, q_intI, q_intB, q_allM, q_anyM, q_sumM, q_tupT, q_tupM, q_tupO, q_tupR, q_listT, q_listM, q_listR, q_listO, q_isi, q_tyN, q_tyB, q_tyI, q_tyS, q_tyT, q_tyR, q_metOk, q_append, q_pop, q_popI, q_setO, q_setR, q_putO, q_walkT, q_walkM, q_walkR, q_walkO, q_setN, q_setM, q_setV, q_setlO, q_rng1, q_rng2, q_settV, q_settT, q_settO, q_opdV, q_opdN, q_addO, q_appL, q_popL, q_sortT, q_sortM, q_sortR, q_sortO, q_sset, q_max, q_min, q_mulT, q_cutO, q_cutM, q_enT, q_enM, q_inIT, q_inTT, q_inIR, q_eqMM, q_extend, q_insert, q_extL, q_insL, q_allO, q_allR, q_anyO, q_anyR, q_sumO, q_sumR, fn_ret ex', hg]
    · have hx : xs.isEmpty = false := by
        rw [ee]; exact Bool.eq_false_iff.mpr hg
      have hx2 : xs ≠ [] := by simpa using hx
      simp [wipe, fn_mkF, semSs, semS, sems, sem, mean, ok_seq, ok_thenN, ok_drop, ok_mRet, ok_mPar, ok_bind', ok_bind, ok_pure, ok_pure', ok_val, ok_tmp, ok_bl, ok_ite, ok_call, ok_lc, ok_lc2, ok_op2, ok_cmp, ok_truth, ok_subO, ok_cutO, ok_revO, ok_negO, ok_intOf, ok_bi, ok_meth, ok_metOk, ok_putO, ok_isi, ok_mVar, ok_toD, ok_stO, ok_rvO, ok_asB, ok_settle, ok_mRng, ok_walkO, ok_enumO, ok_ssetO, ok_put, ok_putT, ok_puts0, ok_putsC, ok_setNode, ok_mDs0, ok_mDsC, ok_mOs0, ok_mOsC, ok_mPart0, ok_mPart1, ok_mIfs0, ok_mIfsC, okM_ok, okM_stuck, okM_exc, okM_ite, Ty.below, atI_nat, atI_0, atI_1, atI_2, atI_3, atI_4, atI_5, atI_6, atI_7, atI_last, q_dII, q_dSS, q_dBB, q_dNN, q_dTT, q_dNI, q_dIN, q_dSI, q_dIS, q_dIT, q_dTI, q_dNT, q_dTN, q_dST, q_dTS, q_ds0, q_dsC, q_dsL, q_dsR, q_fI, q_fB, q_fN, q_fT, q_fS, q_f0, q_fC, q_mVar, q_toDv, q_toDt, q_toDo, q_stOv, q_stOt, q_stOo, q_rvOv, q_rvOt, q_rvOo, q_put, q_addI, q_addT, q_addS, q_subI, q_mulI, q_fdivI, q_modI, q_powI, q_shlI, q_shrI, q_addLtt, q_addLot, q_addLoo, q_neg, q_eq, q_ne, q_eqI, q_eqS, q_eqB, q_eqIB, q_eqBI, q_eqT, q_eqSI, q_eqIS, q_eqIT, q_eqTI, q_eqNI, q_eqIN, q_is, q_isnt, q_isNnon, q_isNint, q_isNbl, q_isNstr, q_isNtup, q_isNref, q_lt, q_gt, q_le, q_leT, q_ge, q_in, q_notin, q_trN, q_trB, q_trI, q_trT, q_trS, q_asB, q_subT, q_subR, q_subO, q_subM, q_nodeO, q_nodeR, q_nodeM, q_cutT, q_cutR, q_revT, q_intOf, q_lstR, q_lstM, q_lstO, q_lenT, q_lenS, q_lenR, q_lenO, q_lenM, q_abs, q_intI, q_intB, q_allM, q_anyM, q_sumM, q_tupT, q_tupM, q_tupO, q_tupR, q_listT, q_listM, q_listR, q_listO, q_isi, q_tyN, q_tyB, q_tyI, q_tyS, q_tyT, q_tyR, q_metOk, q_append, q_pop, q_popI, q_setO, q_setR, q_putO, q_walkT, q_walkM, q_walkR, q_walkO, q_setN, q_setM, q_setV, q_setlO, q_rng1, q_rng2, q_settV, q_settT, q_settO, q_opdV, q_opdN, q_addO, q_appL, q_popL, q_sortT, q_sortM, q_sortR, q_sortO, q_sset, q_max, q_min, q_mulT, q_cutO, q_cutM, q_enT, q_enM, q_inIT, q_inTT, q_inIR, q_eqMM, q_extend, q_insert, q_extL, q_insL, q_allO, q_allR, q_anyO, q_anyR, q_sumO, q_sumR, fn_ret ex', hg, hx, hx2]
  · rw [filterMap_if]
    have fl1 := flat_W 58 (worldsOf names.length m ss)
    have fl2 := likes_W (worldsOf names.length m ss)
    have fl3 : (wsW (worldsOf names.length m ss)).length ≤ lim := by
      rw [wsW_len]
      have := List.length_filter_le (goodW ss) (foundL (thK names.length) m)
      have e : worldsOf names.length m ss = (foundL (thK names.length) m).filter (goodW ss) := rfl
      rw [e]; omega
    have e2 : ((foundL (thK names.length) m).filter (goodW ss)).map wD = wsW (worldsOf names.length m ss) := rfl
    rw [e2]
    obtain ⟨y, ey⟩ := gc_ext h [.lst (wsD (thK names.length))] (.val (.tup (D.srt (wsW (worldsOf names.length m ss)))))
    simp [wipe, unwipe, fn_mkF, semSs, semS, sems, sem, mean, ok_seq, ok_thenN, ok_drop, ok_mRet, ok_mPar, ok_bind', ok_bind, ok_pure, ok_pure', ok_val, ok_tmp, ok_bl, ok_ite, ok_call, ok_lc, ok_lc2, ok_op2, ok_cmp, ok_truth, ok_subO, ok_cutO, ok_revO, ok_negO, ok_intOf, ok_bi, ok_meth, ok_metOk, ok_putO, ok_isi, ok_mVar, ok_toD, ok_stO, ok_rvO, ok_asB, ok_settle, ok_mRng, ok_walkO, ok_enumO, ok_ssetO, ok_put, ok_putT, ok_puts0, ok_putsC, ok_setNode, ok_mDs0, ok_mDsC, ok_mOs0, ok_mOsC, ok_mPart0, ok_mPart1, ok_mIfs0, ok_mIfsC, okM_ok, okM_stuck, okM_exc, okM_ite, Ty.below, atI_nat, atI_0, atI_1, atI_2, atI_3, atI_4, atI_5, atI_6, atI_7, atI_last, q_dII, q_dSS, q_dBB, q_dNN, q_dTT, q_dNI, q_dIN, q_dSI, q_dIS, q_dIT, q_dTI, q_dNT, q_dTN, q_dST, q_dTS, q_ds0, q_dsC, q_dsL, q_dsR, q_fI, q_fB, q_fN, q_fT, q_fS, q_f0, q_fC, q_mVar, q_toDv, q_toDt, q_toDo, q_stOv, q_stOt, q_stOo, q_rvOv, q_rvOt, q_rvOo, q_put, q_addI, q_addT, q_addS, q_subI, q_mulI, q_fdivI, q_modI, q_powI, q_shlI, q_shrI, q_addLtt, q_addLot, q_addLoo, q_neg, q_eq, q_ne, q_eqI, q_eqS, q_eqB, q_eqIB, q_eqBI, q_eqT, q_eqSI, q_eqIS, q_eqIT, q_eqTI, q_eqNI, q_eqIN, q_is, q_isnt, q_isNnon, q_isNint, q_isNbl, q_isNstr, q_isNtup, q_isNref, q_lt, q_gt, q_le, q_leT, q_ge, q_in, q_notin, q_trN, q_trB, q_trI, q_trT, q_trS, q_asB, q_subT, q_subR, q_subO, q_subM, q_nodeO, q_nodeR, q_nodeM, q_cutT, q_cutR, q_revT, q_intOf, q_lstR, q_lstM, q_lstO, q_lenT, q_lenS, q_lenR, q_lenO, q_lenM, q_abs, q_intI, q_intB, q_allM, q_anyM, q_sumM, q_tupT, q_tupM, q_tupO, q_tupR, q_listT, q_listM, q_listR, q_listO, q_isi, q_tyN, q_tyB, q_tyI, q_tyS, q_tyT, q_tyR, q_metOk, q_append, q_pop, q_popI, q_setO, q_setR, q_putO, q_walkT, q_walkM, q_walkR, q_walkO, q_setN, q_setM, q_setV, q_setlO, q_rng1, q_rng2, q_settV, q_settT, q_settO, q_opdV, q_opdN, q_addO, q_appL, q_popL, q_sortT, q_sortM, q_sortR, q_sortO, q_sset, q_max, q_min, q_mulT, q_cutO, q_cutM, q_enT, q_enM, q_inIT, q_inTT, q_inIR, q_eqMM, q_extend, q_insert, q_extL, q_insL, q_allO, q_allR, q_anyO, q_anyR, q_sumO, q_sumR, fl1, fl2, fl3, ey]
    exact q y
def CountSp (f : FnD) : Prop := ∀ (n m : Nat) (names : List D) (ss : List Sen) (h : List Node), names.length = n → 1 ≤ n → n ≤ 3 → m ≤ 5 → ss.length ≤ lim → ∀ {Q : RV → List Node → Prop},
  (∀ x, Q (.val (.int (worldsOf n m ss).length)) (h ++ x)) → Fn f [bk names ss, .int m] h Q
def irCount : ISs := (.cons (.ret (.bi .len (.cons (.call 6 (.cons (.var 0) (.cons (.var 1) .nil))) .nil)))
  .nil)
theorem count_sp {T : Tb} (aw : AllWorldsSp (T.fn 6)) : CountSp (mkF 2 (semSs T irCount)) := by
  intro n m names ss h hn h0 h1 hm hl Q q
  obtain ⟨b, hb⟩ : ∃ b, b = bk names ss := ⟨_, rfl⟩
  rw [← hb]
  simp [irCount, fn_mkF, semSs, semS, sems, sem, mean, ok_seq, ok_thenN, ok_drop, ok_mRet, ok_mPar, ok_bind', ok_bind, ok_pure, ok_pure', ok_val, ok_tmp, ok_bl, ok_ite, ok_call, ok_lc, ok_lc2, ok_op2, ok_cmp, ok_truth, ok_subO, ok_cutO, ok_revO, ok_negO, ok_intOf, ok_bi, ok_meth, ok_metOk, ok_putO, ok_isi, ok_mVar, ok_toD, ok_stO, ok_rvO, ok_asB, ok_settle, ok_mRng, ok_walkO, ok_enumO, ok_ssetO, ok_put, ok_putT, ok_puts0, ok_putsC, ok_setNode, ok_mDs0, ok_mDsC, ok_mOs0, ok_mOsC, ok_mPart0, ok_mPart1, ok_mIfs0, ok_mIfsC, okM_ok, okM_stuck, okM_exc, okM_ite, Ty.below, atI_nat, atI_0, atI_1, atI_2, atI_3, atI_4, atI_5, atI_6, atI_7, atI_last, q_dII, q_dSS, q_dBB, q_dNN, q_dTT, q_dNI, q_dIN, q_dSI, q_dIS, q_dIT, q_dTI, q_dNT, q_dTN, q_dST, q_dTS, q_ds0, q_dsC, q_dsL, q_dsR, q_fI, q_fB, q_fN, q_fT, q_fS, q_f0, q_fC, q_mVar, q_toDv, q_toDt, q_toDo, q_stOv, q_stOt, q_stOo, q_rvOv, q_rvOt, q_rvOo, q_put, q_addI, q_addT, q_addS, q_subI, q_mulI, q_fdivI, q_modI, q_powI, q_shlI, q_shrI, q_addLtt, q_addLot, q_addLoo, q_neg, q_eq, q_ne, q_eqI, q_eqS, q_eqB, q_eqIB, q_eqBI, q_eqT, q_eqSI, q_eqIS, q_eqIT, q_eqTI, q_eqNI, q_eqIN, q_is, q_isnt, q_isNnon, q_isNint, q_isNbl, q_isNstr, q_isNtup, q_isNref, q_lt, q_gt, q_le, q_leT, q_ge, q_in, q_notin, q_trN, q_trB, q_trI, q_trT, q_trS, q_asB, q_subT, q_subR, q_subO, q_subM, q_nodeO, q_nodeR, q_nodeM, q_cutT, q_cutR, q_revT, q_intOf, q_lstR, q_lstM, q_lstO, q_lenT, q_lenS, q_lenR, q_lenO, q_lenM, q_abs, q_intI, q_intB, q_allM, q_anyM, q_sumM, q_tupT, q_tupM, q_tupO, q_tupR, q_listT, q_listM, q_listR, q_listO, q_isi, q_tyN, q_tyB, q_tyI, q_tyS, q_tyT, q_tyR, q_metOk, q_append, q_pop, q_popI, q_setO, q_setR, q_putO, q_walkT, q_walkM, q_walkR, q_walkO, q_setN, q_setM, q_setV, q_setlO, q_rng1, q_rng2, q_settV, q_settT, q_settO, q_opdV, q_opdN, q_addO, q_appL, q_popL, q_sortT, q_sortM, q_sortR, q_sortO, q_sset, q_max, q_min, q_mulT, q_cutO, q_cutM, q_enT, q_enM, q_inIT, q_inTT, q_inIR, q_eqMM, q_extend, q_insert, q_extL, q_insL, q_allO, q_allR, q_anyO, q_anyR, q_sumO, q_sumR]
  rw [hb]
  refine aw n m names ss h hn h0 h1 hm hl fun x => ?_
  have e : (D.srt (wsW (worldsOf n m ss))).length = (worldsOf n m ss).length := by rw [(srt_perm _).length_eq, wsW_len]
  obtain ⟨y, ey⟩ := gc_ext h x (.val (.int (worldsOf n m ss).length))
  simp [fn_mkF, semSs, semS, sems, sem, mean, ok_seq, ok_thenN, ok_drop, ok_mRet, ok_mPar, ok_bind', ok_bind, ok_pure, ok_pure', ok_val, ok_tmp, ok_bl, ok_ite, ok_call, ok_lc, ok_lc2, ok_op2, ok_cmp, ok_truth, ok_subO, ok_cutO, ok_revO, ok_negO, ok_intOf, ok_bi, ok_meth, ok_metOk, ok_putO, ok_isi, ok_mVar, ok_toD, ok_stO, ok_rvO, ok_asB, ok_settle, ok_mRng, ok_walkO, ok_enumO, ok_ssetO, ok_put, ok_putT, ok_puts0, ok_putsC, ok_setNode, ok_mDs0, ok_mDsC, ok_mOs0, ok_mOsC, ok_mPart0, ok_mPart1, ok_mIfs0, ok_mIfsC, okM_ok, okM_stuck, okM_exc, okM_ite, Ty.below, atI_nat, atI_0, atI_1, atI_2, atI_3, atI_4, atI_5, atI_6, atI_7, atI_last, q_dII, q_dSS, q_dBB, q_dNN, q_dTT, q_dNI, q_dIN, q_dSI, q_dIS, q_dIT, q_dTI, q_dNT, q_dTN, q_dST, q_dTS, q_ds0, q_dsC, q_dsL, q_dsR, q_fI, q_fB, q_fN, q_fT, q_fS, q_f0, q_fC, q_mVar, q_toDv, q_toDt, q_toDo, q_stOv, q_stOt, q_stOo, q_rvOv, q_rvOt, q_rvOo, q_put, q_addI, q_addT, q_addS, q_subI, q_mulI, q_fdivI, q_modI, q_powI, q_shlI, q_shrI, q_addLtt, q_addLot, q_addLoo, q_neg, q_eq, q_ne, q_eqI, q_eqS, q_eqB, q_eqIB, q_eqBI, q_eqT, q_eqSI, q_eqIS, q_eqIT, q_eqTI, q_eqNI, q_eqIN, q_is, q_isnt, q_isNnon, q_isNint, q_isNbl, q_isNstr, q_isNtup, q_isNref, q_lt, q_gt, q_le, q_leT, q_ge, q_in, q_notin, q_trN, q_trB, q_trI, q_trT, q_trS, q_asB, q_subT, q_subR, q_subO, q_subM, q_nodeO, q_nodeR, q_nodeM, q_cutT, q_cutR, q_revT, q_intOf, q_lstR, q_lstM, q_lstO, q_lenT, q_lenS, q_lenR, q_lenO, q_lenM, q_abs, q_intI, q_intB, q_allM, q_anyM, q_sumM, q_tupT, q_tupM, q_tupO, q_tupR, q_listT, q_listM, q_listR, q_listO, q_isi, q_tyN, q_tyB, q_tyI, q_tyS, q_tyT, q_tyR, q_metOk, q_append, q_pop, q_popI, q_setO, q_setR, q_putO, q_walkT, q_walkM, q_walkR, q_walkO, q_setN, q_setM, q_setV, q_setlO, q_rng1, q_rng2, q_settV, q_settT, q_settO, q_opdV, q_opdN, q_addO, q_appL, q_popL, q_sortT, q_sortM, q_sortR, q_sortO, q_sset, q_max, q_min, q_mulT, q_cutO, q_cutM, q_enT, q_enM, q_inIT, q_inTT, q_inIR, q_eqMM, q_extend, q_insert, q_extL, q_insL, q_allO, q_allR, q_anyO, q_anyR, q_sumO, q_sumR, e, ey]
  exact q y
/-! ### the law's own worlds -/
def encR (p : W × Nat) : D := .tup [wD p.1, .int (p.2 : Int)]
def LWorldsSp (f : FnD) : Prop := ∀ (n m : Nat) (h : List Node), 1 ≤ n → n ≤ 3 → m ≤ 5 → ∀ {Q : RV → List Node → Prop}, (∀ x, Q (.node (.lst (D.srt (wsW (foundL (thK n) m))))) (h ++ x)) → Fn f [.int n, .int m] h Q
def irLWorlds : ISs := (.cons (.set 2 (.lst (.cons (.tup .nil) .nil)))
  (.cons (.fo (.name 3) (.rng (.cons (.var 0) .nil)) (.cons (.set 2 (.bin .add (.var 2) (.lc [4] (.bin .add (.var 4) (.tup (.cons (.var 3) .nil))) (.name 4) (.var 2) .nil)))
  .nil))
  (.cons (.set 2 (.bi .sorted (.cons (.var 2) .nil)))
  (.cons (.set 5 (.lst (.cons (.tup (.cons (.tup .nil) (.cons (.int 0) .nil))) .nil)))
  (.cons (.set 6 (.lst (.cons (.tup .nil) .nil)))
  (.cons (.fo (.name 7) (.rng (.cons (.var 1) .nil)) (.cons (.set 8 (.lst .nil))
  (.cons (.fo (.tup [(.name 9), (.name 10)]) (.var 5) (.cons (.set 8 (.bin .add (.var 8) (.lc [11] (.tup (.cons (.bin .add (.var 9) (.tup (.cons (.sub (.var 2) (.var 11)) .nil))) (.cons (.var 11) .nil))) (.name 11) (.rng (.cons (.var 10) (.cons (.bi .len (.cons (.var 2) .nil)) .nil))) .nil)))
  .nil))
  (.cons (.set 5 (.var 8))
  (.cons (.set 6 (.bin .add (.var 6) (.lc [9, 10] (.var 9) (.tup [(.name 9), (.name 10)]) (.var 5) .nil)))
  .nil)))))
  (.cons (.ret (.bi .sorted (.cons (.var 6) .nil)))
  .nil)))))))
theorem upD_from (f n : Nat) : upD (f : Int) (n : Int) = ((List.range n).drop f).map fun (i : Nat) => D.int (i : Int) := by
  apply List.ext_getElem
  · simp [upD]
  · intro i h1 h2
    simp [upD]
theorem rows_small {n m i : Nat} (h0 : 1 ≤ n) (h1 : n ≤ 3) (hm : i ≤ 5) : (rowsR (thK n) i).length ≤ 32768 := by
  have e := congrArg List.length (rows_line (asc_K n h0 h1).1 i).1
  rw [List.length_map] at e
  have := lineL_len (asc_K n h0 h1).2.1 i
  have := pow8 hm
  omega
theorem lworlds_sp (T : Tb) : LWorldsSp (mkF 12 (semSs T irLWorlds)) := by
  intro n m h h0 h1 hm Q q
  have hlim := lim_eq
  have smn : small (n : Int) := ⟨by omega, by omega⟩
  have smm : small (m : Int) := ⟨by omega, by omega⟩
  obtain ⟨hA, hK8, hK3, hKg⟩ := asc_K n h0 h1
  simp [irLWorlds, fn_mkF, semSs, semS, sems, sem, mean, ok_seq, ok_thenN, ok_drop, ok_mRet, ok_mPar, ok_bind', ok_bind, ok_pure, ok_pure', ok_val, ok_tmp, ok_bl, ok_ite, ok_call, ok_lc, ok_lc2, ok_op2, ok_cmp, ok_truth, ok_subO, ok_cutO, ok_revO, ok_negO, ok_intOf, ok_bi, ok_meth, ok_metOk, ok_putO, ok_isi, ok_mVar, ok_toD, ok_stO, ok_rvO, ok_asB, ok_settle, ok_mRng, ok_walkO, ok_enumO, ok_ssetO, ok_put, ok_putT, ok_puts0, ok_putsC, ok_setNode, ok_mDs0, ok_mDsC, ok_mOs0, ok_mOsC, ok_mPart0, ok_mPart1, ok_mIfs0, ok_mIfsC, okM_ok, okM_stuck, okM_exc, okM_ite, Ty.below, atI_nat, atI_0, atI_1, atI_2, atI_3, atI_4, atI_5, atI_6, atI_7, atI_last, q_dII, q_dSS, q_dBB, q_dNN, q_dTT, q_dNI, q_dIN, q_dSI, q_dIS, q_dIT, q_dTI, q_dNT, q_dTN, q_dST, q_dTS, q_ds0, q_dsC, q_dsL, q_dsR, q_fI, q_fB, q_fN, q_fT, q_fS, q_f0, q_fC, q_mVar, q_toDv, q_toDt, q_toDo, q_stOv, q_stOt, q_stOo, q_rvOv, q_rvOt, q_rvOo, q_put, q_addI, q_addT, q_addS, q_subI, q_mulI, q_fdivI, q_modI, q_powI, q_shlI, q_shrI, q_addLtt, q_addLot, q_addLoo, q_neg, q_eq, q_ne, q_eqI, q_eqS, q_eqB, q_eqIB, q_eqBI, q_eqT, q_eqSI, q_eqIS, q_eqIT, q_eqTI, q_eqNI, q_eqIN, q_is, q_isnt, q_isNnon, q_isNint, q_isNbl, q_isNstr, q_isNtup, q_isNref, q_lt, q_gt, q_le, q_leT, q_ge, q_in, q_notin, q_trN, q_trB, q_trI, q_trT, q_trS, q_asB, q_subT, q_subR, q_subO, q_subM, q_nodeO, q_nodeR, q_nodeM, q_cutT, q_cutR, q_revT, q_intOf, q_lstR, q_lstM, q_lstO, q_lenT, q_lenS, q_lenR, q_lenO, q_lenM, q_abs, q_intI, q_intB, q_allM, q_anyM, q_sumM, q_tupT, q_tupM, q_tupO, q_tupR, q_listT, q_listM, q_listR, q_listO, q_isi, q_tyN, q_tyB, q_tyI, q_tyS, q_tyT, q_tyR, q_metOk, q_append, q_pop, q_popI, q_setO, q_setR, q_putO, q_walkT, q_walkM, q_walkR, q_walkO, q_setN, q_setM, q_setV, q_setlO, q_rng1, q_rng2, q_settV, q_settT, q_settO, q_opdV, q_opdN, q_addO, q_appL, q_popL, q_sortT, q_sortM, q_sortR, q_sortO, q_sset, q_max, q_min, q_mulT, q_cutO, q_cutM, q_enT, q_enM, q_inIT, q_inTT, q_inIR, q_eqMM, q_extend, q_insert, q_extL, q_insL, q_allO, q_allR, q_anyO, q_anyR, q_sumO, q_sumR, smn]
  obtain ⟨I, hI⟩ : ∃ I : List D → St → Prop, ∀ ds s, I ds s ↔ ∃ (i : Nat) (x3 : Slot), i ≤ n ∧ ds = (upD 0 n).drop i ∧ s = ⟨[.val (.int n), .val (.int m), .own (.lst (wsD (thT i))), x3, .unset, .unset, .unset, .unset, .unset, .unset, .unset, .unset], h⟩ := ⟨_, fun _ _ => Iff.rfl⟩
  refine ok_for I ?_ ?_ _ _ ((hI _ _).mpr ⟨0, .unset, by omega, rfl, rfl⟩)
  · intro d ds s hs
    obtain ⟨i, x3, hi, hds, rfl⟩ := (hI _ _).mp hs
    obtain ⟨hin, rfl, rfl⟩ := upD_drop hds.symm
    refine ⟨same_none, ?_⟩
    have l8 := thT_small i (by omega)
    have wl := ws_len (thT i)
    simp [fn_mkF, semSs, semS, sems, sem, mean, ok_seq, ok_thenN, ok_drop, ok_mRet, ok_mPar, ok_bind', ok_bind, ok_pure, ok_pure', ok_val, ok_tmp, ok_bl, ok_ite, ok_call, ok_lc, ok_lc2, ok_op2, ok_cmp, ok_truth, ok_subO, ok_cutO, ok_revO, ok_negO, ok_intOf, ok_bi, ok_meth, ok_metOk, ok_putO, ok_isi, ok_mVar, ok_toD, ok_stO, ok_rvO, ok_asB, ok_settle, ok_mRng, ok_walkO, ok_enumO, ok_ssetO, ok_put, ok_putT, ok_puts0, ok_putsC, ok_setNode, ok_mDs0, ok_mDsC, ok_mOs0, ok_mOsC, ok_mPart0, ok_mPart1, ok_mIfs0, ok_mIfsC, okM_ok, okM_stuck, okM_exc, okM_ite, Ty.below, atI_nat, atI_0, atI_1, atI_2, atI_3, atI_4, atI_5, atI_6, atI_7, atI_last, q_dII, q_dSS, q_dBB, q_dNN, q_dTT, q_dNI, q_dIN, q_dSI, q_dIS, q_dIT, q_dTI, q_dNT, q_dTN, q_dST, q_dTS, q_ds0, q_dsC, q_dsL, q_dsR, q_fI, q_fB, q_fN, q_fT, q_fS, q_f0, q_fC, q_mVar, q_toDv, q_toDt, q_toDo, q_stOv, q_stOt, q_stOo, q_rvOv, q_rvOt, q_rvOo, q_put, q_addI, q_addT, q_addS, q_subI, q_mulI, q_fdivI, q_modI, q_powI, q_shlI, q_shrI, q_addLtt, q_addLot, q_addLoo, q_neg, q_eq, q_ne, q_eqI, q_eqS, q_eqB, q_eqIB, q_eqBI, q_eqT, q_eqSI, q_eqIS, q_eqIT, q_eqTI, q_eqNI, q_eqIN, q_is, q_isnt, q_isNnon, q_isNint, q_isNbl, q_isNstr, q_isNtup, q_isNref, q_lt, q_gt, q_le, q_leT, q_ge, q_in, q_notin, q_trN, q_trB, q_trI, q_trT, q_trS, q_asB, q_subT, q_subR, q_subO, q_subM, q_nodeO, q_nodeR, q_nodeM, q_cutT, q_cutR, q_revT, q_intOf, q_lstR, q_lstM, q_lstO, q_lenT, q_lenS, q_lenR, q_lenO, q_lenM, q_abs, q_intI, q_intB, q_allM, q_anyM, q_sumM, q_tupT, q_tupM, q_tupO, q_tupR, q_listT, q_listM, q_listR, q_listO, q_isi, q_tyN, q_tyB, q_tyI, q_tyS, q_tyT, q_tyR, q_metOk, q_append, q_pop, q_popI, q_setO, q_setR, q_putO, q_walkT, q_walkM, q_walkR, q_walkO, q_setN, q_setM, q_setV, q_setlO, q_rng1, q_rng2, q_settV, q_settT, q_settO, q_opdV, q_opdN, q_addO, q_appL, q_popL, q_sortT, q_sortM, q_sortR, q_sortO, q_sset, q_max, q_min, q_mulT, q_cutO, q_cutM, q_enT, q_enM, q_inIT, q_inTT, q_inIR, q_eqMM, q_extend, q_insert, q_extL, q_insL, q_allO, q_allR, q_anyO, q_anyR, q_sumO, q_sumR, wipe]
    refine ok_lc_of (thT i) tD (fun t => some (tD (t ++ [(i : Int)]))) (w := ⟨wsD (thT i), some (.own 2, wsD (thT i))⟩) (own := [4]) (sl := [.val (.int n), .val (.int m), .own (.lst (wsD (thT i))), .val (.int i), .unset, .unset, .unset, .unset, .unset, .unset, .unset, .unset]) rfl (lst_same rfl) (by omega) (fun t ht => ?_) ?_
    · have tl := thT_item i (by omega) t ht
      have tl2 : t.length + 1 ≤ lim := by omega
      simp [wipe, tD, fn_mkF, semSs, semS, sems, sem, mean, ok_seq, ok_thenN, ok_drop, ok_mRet, ok_mPar, ok_bind', ok_bind, ok_pure, ok_pure', ok_val, ok_tmp, ok_bl, ok_ite, ok_call, ok_lc, ok_lc2, ok_op2, ok_cmp, ok_truth, ok_subO, ok_cutO, ok_revO, ok_negO, ok_intOf, ok_bi, ok_meth, ok_metOk, ok_putO, ok_isi, ok_mVar, ok_toD, ok_stO, ok_rvO, ok_asB, ok_settle, ok_mRng, ok_walkO, ok_enumO, ok_ssetO, ok_put, ok_putT, ok_puts0, ok_putsC, ok_setNode, ok_mDs0, ok_mDsC, ok_mOs0, ok_mOsC, ok_mPart0, ok_mPart1, ok_mIfs0, ok_mIfsC, okM_ok, okM_stuck, okM_exc, okM_ite, Ty.below, atI_nat, atI_0, atI_1, atI_2, atI_3, atI_4, atI_5, atI_6, atI_7, atI_last, q_dII, q_dSS, q_dBB, q_dNN, q_dTT, q_dNI, q_dIN, q_dSI, q_dIS, q_dIT, q_dTI, q_dNT, q_dTN, q_dST, q_dTS, q_ds0, q_dsC, q_dsL, q_dsR, q_fI, q_fB, q_fN, q_fT, q_fS, q_f0, q_fC, q_mVar, q_toDv, q_toDt, q_toDo, q_stOv, q_stOt, q_stOo, q_rvOv, q_rvOt, q_rvOo, q_put, q_addI, q_addT, q_addS, q_subI, q_mulI, q_fdivI, q_modI, q_powI, q_shlI, q_shrI, q_addLtt, q_addLot, q_addLoo, q_neg, q_eq, q_ne, q_eqI, q_eqS, q_eqB, q_eqIB, q_eqBI, q_eqT, q_eqSI, q_eqIS, q_eqIT, q_eqTI, q_eqNI, q_eqIN, q_is, q_isnt, q_isNnon, q_isNint, q_isNbl, q_isNstr, q_isNtup, q_isNref, q_lt, q_gt, q_le, q_leT, q_ge, q_in, q_notin, q_trN, q_trB, q_trI, q_trT, q_trS, q_asB, q_subT, q_subR, q_subO, q_subM, q_nodeO, q_nodeR, q_nodeM, q_cutT, q_cutR, q_revT, q_intOf, q_lstR, q_lstM, q_lstO, q_lenT, q_lenS, q_lenR, q_lenO, q_lenM, q_abs, q_intI, q_intB, q_allM, q_anyM, q_sumM, q_tupT, q_tupM, q_tupO, q_tupR, q_listT, q_listM, q_listR, q_listO, q_isi, q_tyN, q_tyB, q_tyI, q_tyS, q_tyT, q_tyR, q_metOk, q_append, q_pop, q_popI, q_setO, q_setR, q_putO, q_walkT, q_walkM, q_walkR, q_walkO, q_setN, q_setM, q_setV, q_setlO, q_rng1, q_rng2, q_settV, q_settT, q_settO, q_opdV, q_opdN, q_addO, q_appL, q_popL, q_sortT, q_sortM, q_sortR, q_sortO, q_sset, q_max, q_min, q_mulT, q_cutO, q_cutM, q_enT, q_enM, q_inIT, q_inTT, q_inIR, q_eqMM, q_extend, q_insert, q_extL, q_insL, q_allO, q_allR, q_anyO, q_anyR, q_sumO, q_sumR, tl2]
    · rw [filterMap_some]
      have l9 : (thT i).length + (thT i).length ≤ lim := by omega
      simp [wipe, unwipe, fn_mkF, semSs, semS, sems, sem, mean, ok_seq, ok_thenN, ok_drop, ok_mRet, ok_mPar, ok_bind', ok_bind, ok_pure, ok_pure', ok_val, ok_tmp, ok_bl, ok_ite, ok_call, ok_lc, ok_lc2, ok_op2, ok_cmp, ok_truth, ok_subO, ok_cutO, ok_revO, ok_negO, ok_intOf, ok_bi, ok_meth, ok_metOk, ok_putO, ok_isi, ok_mVar, ok_toD, ok_stO, ok_rvO, ok_asB, ok_settle, ok_mRng, ok_walkO, ok_enumO, ok_ssetO, ok_put, ok_putT, ok_puts0, ok_putsC, ok_setNode, ok_mDs0, ok_mDsC, ok_mOs0, ok_mOsC, ok_mPart0, ok_mPart1, ok_mIfs0, ok_mIfsC, okM_ok, okM_stuck, okM_exc, okM_ite, Ty.below, atI_nat, atI_0, atI_1, atI_2, atI_3, atI_4, atI_5, atI_6, atI_7, atI_last, q_dII, q_dSS, q_dBB, q_dNN, q_dTT, q_dNI, q_dIN, q_dSI, q_dIS, q_dIT, q_dTI, q_dNT, q_dTN, q_dST, q_dTS, q_ds0, q_dsC, q_dsL, q_dsR, q_fI, q_fB, q_fN, q_fT, q_fS, q_f0, q_fC, q_mVar, q_toDv, q_toDt, q_toDo, q_stOv, q_stOt, q_stOo, q_rvOv, q_rvOt, q_rvOo, q_put, q_addI, q_addT, q_addS, q_subI, q_mulI, q_fdivI, q_modI, q_powI, q_shlI, q_shrI, q_addLtt, q_addLot, q_addLoo, q_neg, q_eq, q_ne, q_eqI, q_eqS, q_eqB, q_eqIB, q_eqBI, q_eqT, q_eqSI, q_eqIS, q_eqIT, q_eqTI, q_eqNI, q_eqIN, q_is, q_isnt, q_isNnon, q_isNint, q_isNbl, q_isNstr, q_isNtup, q_isNref, q_lt, q_gt, q_le, q_leT, q_ge, q_in, q_notin, q_trN, q_trB, q_trI, q_trT, q_trS, q_asB, q_subT, q_subR, q_subO, q_subM, q_nodeO, q_nodeR, q_nodeM, q_cutT, q_cutR, q_revT, q_intOf, q_lstR, q_lstM, q_lstO, q_lenT, q_lenS, q_lenR, q_lenO, q_lenM, q_abs, q_intI, q_intB, q_allM, q_anyM, q_sumM, q_tupT, q_tupM, q_tupO, q_tupR, q_listT, q_listM, q_listR, q_listO, q_isi, q_tyN, q_tyB, q_tyI, q_tyS, q_tyT, q_tyR, q_metOk, q_append, q_pop, q_popI, q_setO, q_setR, q_putO, q_walkT, q_walkM, q_walkR, q_walkO, q_setN, q_setM, q_setV, q_setlO, q_rng1, q_rng2, q_settV, q_settT, q_settO, q_opdV, q_opdN, q_addO, q_appL, q_popL, q_sortT, q_sortM, q_sortR, q_sortO, q_sset, q_max, q_min, q_mulT, q_cutO, q_cutM, q_enT, q_enM, q_inIT, q_inTT, q_inIR, q_eqMM, q_extend, q_insert, q_extL, q_insL, q_allO, q_allR, q_anyO, q_anyR, q_sumO, q_sumR, wl, l9]
      exact (hI _ _).mpr ⟨i + 1, .val (.int i), by omega, rfl, by simp [thT, wsD, Function.comp_def]⟩
  · intro s hs
    obtain ⟨i, x3, hi, hds, rfl⟩ := (hI _ _).mp hs
    have hie : i = n := by
      have := congrArg List.length hds
      simp [upD] at this
      omega
    subst hie
    refine ⟨same_none, ?_⟩
    have l8 := thT_small i (by omega)
    have wl := ws_len (thT i)
    have l9 : (thT i).length ≤ lim := by omega
    have f1 := flat_ws 59 (thT i)
    have f2 := likes_ws (thT i)
    simp [fn_mkF, semSs, semS, sems, sem, mean, ok_seq, ok_thenN, ok_drop, ok_mRet, ok_mPar, ok_bind', ok_bind, ok_pure, ok_pure', ok_val, ok_tmp, ok_bl, ok_ite, ok_call, ok_lc, ok_lc2, ok_op2, ok_cmp, ok_truth, ok_subO, ok_cutO, ok_revO, ok_negO, ok_intOf, ok_bi, ok_meth, ok_metOk, ok_putO, ok_isi, ok_mVar, ok_toD, ok_stO, ok_rvO, ok_asB, ok_settle, ok_mRng, ok_walkO, ok_enumO, ok_ssetO, ok_put, ok_putT, ok_puts0, ok_putsC, ok_setNode, ok_mDs0, ok_mDsC, ok_mOs0, ok_mOsC, ok_mPart0, ok_mPart1, ok_mIfs0, ok_mIfsC, okM_ok, okM_stuck, okM_exc, okM_ite, Ty.below, atI_nat, atI_0, atI_1, atI_2, atI_3, atI_4, atI_5, atI_6, atI_7, atI_last, q_dII, q_dSS, q_dBB, q_dNN, q_dTT, q_dNI, q_dIN, q_dSI, q_dIS, q_dIT, q_dTI, q_dNT, q_dTN, q_dST, q_dTS, q_ds0, q_dsC, q_dsL, q_dsR, q_fI, q_fB, q_fN, q_fT, q_fS, q_f0, q_fC, q_mVar, q_toDv, q_toDt, q_toDo, q_stOv, q_stOt, q_stOo, q_rvOv, q_rvOt, q_rvOo, q_put, q_addI, q_addT, q_addS, q_subI, q_mulI, q_fdivI, q_modI, q_powI, q_shlI, q_shrI, q_addLtt, q_addLot, q_addLoo, q_neg, q_eq, q_ne, q_eqI, q_eqS, q_eqB, q_eqIB, q_eqBI, q_eqT, q_eqSI, q_eqIS, q_eqIT, q_eqTI, q_eqNI, q_eqIN, q_is, q_isnt, q_isNnon, q_isNint, q_isNbl, q_isNstr, q_isNtup, q_isNref, q_lt, q_gt, q_le, q_leT, q_ge, q_in, q_notin, q_trN, q_trB, q_trI, q_trT, q_trS, q_asB, q_subT, q_subR, q_subO, q_subM, q_nodeO, q_nodeR, q_nodeM, q_cutT, q_cutR, q_revT, q_intOf, q_lstR, q_lstM, q_lstO, q_lenT, q_lenS, q_lenR, q_lenO, q_lenM, q_abs, q_intI, q_intB, q_allM, q_anyM, q_sumM, q_tupT, q_tupM, q_tupO, q_tupR, q_listT, q_listM, q_listR, q_listO, q_isi, q_tyN, q_tyB, q_tyI, q_tyS, q_tyT, q_tyR, q_metOk, q_append, q_pop, q_popI, q_setO, q_setR, q_putO, q_walkT, q_walkM, q_walkR, q_walkO, q_setN, q_setM, q_setV, q_setlO, q_rng1, q_rng2, q_settV, q_settT, q_settO, q_opdV, q_opdN, q_addO, q_appL, q_popL, q_sortT, q_sortM, q_sortR, q_sortO, q_sset, q_max, q_min, q_mulT, q_cutO, q_cutM, q_enT, q_enM, q_inIT, q_inTT, q_inIR, q_eqMM, q_extend, q_insert, q_extL, q_insL, q_allO, q_allR, q_anyO, q_anyR, q_sumO, q_sumR, f1, f2, wl, l9, srt_K i h0 h1, smm]
    obtain ⟨J, hJ⟩ : ∃ J : List D → St → Prop, ∀ ds s, J ds s ↔ ∃ (k : Nat) (x3 x5 x7 x8 x9 x10 : Slot) (y : List Node), k ≤ m ∧ ds = (upD 0 m).drop k ∧ Lst x5 (h ++ y) ((rowsR (thK i) k).map encR) ∧
        s = ⟨[.val (.int i), .val (.int m), .own (.lst (wsD (thK i))), x3, .unset, x5, .own (.lst (wsW (foundL (thK i) k))), x7, x8, x9, x10, .unset], h ++ y⟩ := ⟨_, fun _ _ => Iff.rfl⟩
    refine ok_for J ?_ ?_ _ _ ((hJ _ _).mpr ⟨0, x3, _, .unset, .unset, .unset, .unset, [], by omega, rfl, .inl rfl, by simp [wsW, foundL, rowsR, encR, wD, wsD]⟩)
    · intro d ds s hs
      obtain ⟨k, x3, x5, x7, x8, x9, x10, y, hk, hds, hx5, rfl⟩ := (hJ _ _).mp hs
      obtain ⟨hkn, rfl, rfl⟩ := upD_drop hds.symm
      refine ⟨same_none, ?_⟩
      obtain ⟨rl1, rl2⟩ := rows_line hA k
      have rs := rows_small h0 h1 (i := k) (by omega) (m := m)
      have rs2 := rows_small h0 h1 (i := k + 1) (by omega) (m := m)
      have fs := found_small h0 h1 hm
      have fk := foundL_len hK8 k
      have pk := pow8 (n := k) (by omega)
      have wk := ws_len (thK i)
      have smK : small ((thK i).length : Int) := ⟨by omega, by omega⟩
      -- the inner loop, the rows lying at l
      obtain ⟨I2, hI2⟩ : ∃ I2 : Nat → List Node → List D → St → Prop, ∀ l hp ds s, I2 l hp ds s ↔ ∃ (pre post : List (W × Nat)) (x9 x10 : Slot), rowsR (thK i) k = pre ++ post ∧ ds = post.map encR ∧
          s = ⟨[.val (.int i), .val (.int m), .own (.lst (wsD (thK i))), x3, .unset, .val (.ref l), .own (.lst (wsW (foundL (thK i) k))), .val (.int k), .own (.lst ((stepR (thK i) pre).map encR)), x9, x10, .unset], hp⟩ := ⟨_, fun _ _ _ _ => Iff.rfl⟩
      have turn : ∀ (l : Nat) (hp : List Node) (hl : hp[l]? = some (.lst ((rowsR (thK i) k).map encR))) d ds s, I2 l hp (d :: ds) s → (Walk.mk ((rowsR (thK i) k).map encR) (some (.val (.ref l), (rowsR (thK i) k).map encR))).same s = true ∧ Ok ((Tg.tup [.name 9, .name 10]).put d) s fun _ s1 => Ok (semSs T (.cons (.set 8 (.bin .add (.var 8) (.lc [11] (.tup (.cons (.bin .add (.var 9) (.tup (.cons (.sub (.var 2) (.var 11)) .nil))) (.cons (.var 11) .nil))) (.name 11) (.rng (.cons (.var 10) (.cons (.bi .len (.cons (.var 2) .nil)) .nil))) .nil)))
  .nil)) s1 fun f s2 => match f with
          | .next => I2 l hp ds s2
          | .cont => I2 l hp ds s2
          | .brk => False
          | .ret _ => False := by
        intro l hp hl d ds s hs
        obtain ⟨pre, post, x9, x10, e, ed, rfl⟩ := (hI2 _ _ _ _).mp hs
        refine ⟨ref_same hl, ?_⟩
        cases post with
        | nil => cases ed
        | cons p post =>
          simp only [List.map_cons, List.cons.injEq] at ed
          obtain ⟨rfl, rfl⟩ := ed
          have hpm : p ∈ rowsR (thK i) k := by rw [e]; simp
          have hp1 : p.1 ∈ lineL (thK i) k := by rw [← rl1]; exact List.mem_map.mpr ⟨p, hpm, rfl⟩
          have pl := (lineL_ok k p.1 hp1).1
          have pw := ws_len p.1
          have pf : p.2 ≤ (thK i).length := by
            rcases rl2 p hpm with ⟨_, q2⟩ | ⟨q1, _⟩
            · omega
            · omega
          have smf : small (p.2 : Int) := ⟨by omega, by omega⟩
          have lpre : (stepR (thK i) pre).length + (stepR (thK i) [p]).length ≤ 32768 := by
            have : stepR (thK i) (rowsR (thK i) k) = stepR (thK i) pre ++ (stepR (thK i) [p] ++ stepR (thK i) post) := by
              rw [e]; simp [stepR]
            have e3 : rowsR (thK i) (k + 1) = stepR (thK i) (rowsR (thK i) k) := rfl
            rw [e3, this] at rs2
            simp only [List.length_append] at rs2
            omega
          have pl1 : p.1.length + 1 ≤ lim := by omega
          simp [encR, fn_mkF, semSs, semS, sems, sem, mean, ok_seq, ok_thenN, ok_drop, ok_mRet, ok_mPar, ok_bind', ok_bind, ok_pure, ok_pure', ok_val, ok_tmp, ok_bl, ok_ite, ok_call, ok_lc, ok_lc2, ok_op2, ok_cmp, ok_truth, ok_subO, ok_cutO, ok_revO, ok_negO, ok_intOf, ok_bi, ok_meth, ok_metOk, ok_putO, ok_isi, ok_mVar, ok_toD, ok_stO, ok_rvO, ok_asB, ok_settle, ok_mRng, ok_walkO, ok_enumO, ok_ssetO, ok_put, ok_putT, ok_puts0, ok_putsC, ok_setNode, ok_mDs0, ok_mDsC, ok_mOs0, ok_mOsC, ok_mPart0, ok_mPart1, ok_mIfs0, ok_mIfsC, okM_ok, okM_stuck, okM_exc, okM_ite, Ty.below, atI_nat, atI_0, atI_1, atI_2, atI_3, atI_4, atI_5, atI_6, atI_7, atI_last, q_dII, q_dSS, q_dBB, q_dNN, q_dTT, q_dNI, q_dIN, q_dSI, q_dIS, q_dIT, q_dTI, q_dNT, q_dTN, q_dST, q_dTS, q_ds0, q_dsC, q_dsL, q_dsR, q_fI, q_fB, q_fN, q_fT, q_fS, q_f0, q_fC, q_mVar, q_toDv, q_toDt, q_toDo, q_stOv, q_stOt, q_stOo, q_rvOv, q_rvOt, q_rvOo, q_put, q_addI, q_addT, q_addS, q_subI, q_mulI, q_fdivI, q_modI, q_powI, q_shlI, q_shrI, q_addLtt, q_addLot, q_addLoo, q_neg, q_eq, q_ne, q_eqI, q_eqS, q_eqB, q_eqIB, q_eqBI, q_eqT, q_eqSI, q_eqIS, q_eqIT, q_eqTI, q_eqNI, q_eqIN, q_is, q_isnt, q_isNnon, q_isNint, q_isNbl, q_isNstr, q_isNtup, q_isNref, q_lt, q_gt, q_le, q_leT, q_ge, q_in, q_notin, q_trN, q_trB, q_trI, q_trT, q_trS, q_asB, q_subT, q_subR, q_subO, q_subM, q_nodeO, q_nodeR, q_nodeM, q_cutT, q_cutR, q_revT, q_intOf, q_lstR, q_lstM, q_lstO, q_lenT, q_lenS, q_lenR, q_lenO, q_lenM, q_abs, q_intI, q_intB, q_allM, q_anyM, q_sumM, q_tupT, q_tupM, q_tupO, q_tupR, q_listT, q_listM, q_listR, q_listO, q_isi, q_tyN, q_tyB, q_tyI, q_tyS, q_tyT, q_tyR, q_metOk, q_append, q_pop, q_popI, q_setO, q_setR, q_putO, q_walkT, q_walkM, q_walkR, q_walkO, q_setN, q_setM, q_setV, q_setlO, q_rng1, q_rng2, q_settV, q_settT, q_settO, q_opdV, q_opdN, q_addO, q_appL, q_popL, q_sortT, q_sortM, q_sortR, q_sortO, q_sset, q_max, q_min, q_mulT, q_cutO, q_cutM, q_enT, q_enM, q_inIT, q_inTT, q_inIR, q_eqMM, q_extend, q_insert, q_extL, q_insL, q_allO, q_allR, q_anyO, q_anyR, q_sumO, q_sumR, wk, smf, smK, wipe]
          refine ok_lc_of ((List.range (thK i).length).drop p.2) (fun i => D.int (i : Int)) (fun a => some (encR (p.1 ++ [(thK i).getD a []], a))) (w := ⟨upD p.2 (thK i).length, none⟩) (own := [11]) (sl := [.val (.int i), .val (.int m), .own (.lst (wsD (thK i))), x3, .unset, .val (.ref l), .own (.lst (wsW (foundL (thK i) k))), .val (.int k), .own (.lst ((stepR (thK i) pre).map encR)), .val (wD p.1), .val (.int p.2), .unset]) (upD_from _ _) rfl (by simp; omega) (fun a ha => ?_) ?_
          · have hal : a < (thK i).length := by
              have := List.mem_of_mem_drop ha
              simpa using this
            have hga : (thK i).getD a [] = (thK i)[a] := by rw [List.getD_eq_getElem?_getD, List.getElem?_eq_getElem hal]; rfl
            have hgw : (wsD (thK i))[a]? = some (tD (thK i)[a]) := by unfold wsD; rw [List.getElem?_map, List.getElem?_eq_getElem hal]; rfl
            simp [wipe, wD, fn_mkF, semSs, semS, sems, sem, mean, ok_seq, ok_thenN, ok_drop, ok_mRet, ok_mPar, ok_bind', ok_bind, ok_pure, ok_pure', ok_val, ok_tmp, ok_bl, ok_ite, ok_call, ok_lc, ok_lc2, ok_op2, ok_cmp, ok_truth, ok_subO, ok_cutO, ok_revO, ok_negO, ok_intOf, ok_bi, ok_meth, ok_metOk, ok_putO, ok_isi, ok_mVar, ok_toD, ok_stO, ok_rvO, ok_asB, ok_settle, ok_mRng, ok_walkO, ok_enumO, ok_ssetO, ok_put, ok_putT, ok_puts0, ok_putsC, ok_setNode, ok_mDs0, ok_mDsC, ok_mOs0, ok_mOsC, ok_mPart0, ok_mPart1, ok_mIfs0, ok_mIfsC, okM_ok, okM_stuck, okM_exc, okM_ite, Ty.below, atI_nat, atI_0, atI_1, atI_2, atI_3, atI_4, atI_5, atI_6, atI_7, atI_last, q_dII, q_dSS, q_dBB, q_dNN, q_dTT, q_dNI, q_dIN, q_dSI, q_dIS, q_dIT, q_dTI, q_dNT, q_dTN, q_dST, q_dTS, q_ds0, q_dsC, q_dsL, q_dsR, q_fI, q_fB, q_fN, q_fT, q_fS, q_f0, q_fC, q_mVar, q_toDv, q_toDt, q_toDo, q_stOv, q_stOt, q_stOo, q_rvOv, q_rvOt, q_rvOo, q_put, q_addI, q_addT, q_addS, q_subI, q_mulI, q_fdivI, q_modI, q_powI, q_shlI, q_shrI, q_addLtt, q_addLot, q_addLoo, q_neg, q_eq, q_ne, q_eqI, q_eqS, q_eqB, q_eqIB, q_eqBI, q_eqT, q_eqSI, q_eqIS, q_eqIT, q_eqTI, q_eqNI, q_eqIN, q_is, q_isnt, q_isNnon, q_isNint, q_isNbl, q_isNstr, q_isNtup, q_isNref, q_lt, q_gt, q_le, q_leT, q_ge, q_in, q_notin, q_trN, q_trB, q_trI, q_trT, q_trS, q_asB, q_subT, q_subR, q_subO, q_subM, q_nodeO, q_nodeR, q_nodeM, q_cutT, q_cutR, q_revT, q_intOf, q_lstR, q_lstM, q_lstO, q_lenT, q_lenS, q_lenR, q_lenO, q_lenM, q_abs, q_intI, q_intB, q_allM, q_anyM, q_sumM, q_tupT, q_tupM, q_tupO, q_tupR, q_listT, q_listM, q_listR, q_listO, q_isi, q_tyN, q_tyB, q_tyI, q_tyS, q_tyT, q_tyR, q_metOk, q_append, q_pop, q_popI, q_setO, q_setR, q_putO, q_walkT, q_walkM, q_walkR, q_walkO, q_setN, q_setM, q_setV, q_setlO, q_rng1, q_rng2, q_settV, q_settT, q_settO, q_opdV, q_opdN, q_addO, q_appL, q_popL, q_sortT, q_sortM, q_sortR, q_sortO, q_sset, q_max, q_min, q_mulT, q_cutO, q_cutM, q_enT, q_enM, q_inIT, q_inTT, q_inIR, q_eqMM, q_extend, q_insert, q_extL, q_insL, q_allO, q_allR, q_anyO, q_anyR, q_sumO, q_sumR, hgw, pw, pl1, encR, hga, ws_app]
            simp [wsD]
            rw [List.getElem?_eq_getElem hal]
            rfl
          · rw [filterMap_some]
            have e4 : (((List.range (thK i).length).drop p.2).map fun a => encR (p.1 ++ [(thK i).getD a []], a)) = (stepR (thK i) [p]).map encR := by simp [stepR, Function.comp_def]
            rw [e4]
            have l6 : (stepR (thK i) pre).length + (stepR (thK i) [p]).length ≤ lim := by omega
            simp [wipe, unwipe, fn_mkF, semSs, semS, sems, sem, mean, ok_seq, ok_thenN, ok_drop, ok_mRet, ok_mPar, ok_bind', ok_bind, ok_pure, ok_pure', ok_val, ok_tmp, ok_bl, ok_ite, ok_call, ok_lc, ok_lc2, ok_op2, ok_cmp, ok_truth, ok_subO, ok_cutO, ok_revO, ok_negO, ok_intOf, ok_bi, ok_meth, ok_metOk, ok_putO, ok_isi, ok_mVar, ok_toD, ok_stO, ok_rvO, ok_asB, ok_settle, ok_mRng, ok_walkO, ok_enumO, ok_ssetO, ok_put, ok_putT, ok_puts0, ok_putsC, ok_setNode, ok_mDs0, ok_mDsC, ok_mOs0, ok_mOsC, ok_mPart0, ok_mPart1, ok_mIfs0, ok_mIfsC, okM_ok, okM_stuck, okM_exc, okM_ite, Ty.below, atI_nat, atI_0, atI_1, atI_2, atI_3, atI_4, atI_5, atI_6, atI_7, atI_last, q_dII, q_dSS, q_dBB, q_dNN, q_dTT, q_dNI, q_dIN, q_dSI, q_dIS, q_dIT, q_dTI, q_dNT, q_dTN, q_dST, q_dTS, q_ds0, q_dsC, q_dsL, q_dsR, q_fI, q_fB, q_fN, q_fT, q_fS, q_f0, q_fC, q_mVar, q_toDv, q_toDt, q_toDo, q_stOv, q_stOt, q_stOo, q_rvOv, q_rvOt, q_rvOo, q_put, q_addI, q_addT, q_addS, q_subI, q_mulI, q_fdivI, q_modI, q_powI, q_shlI, q_shrI, q_addLtt, q_addLot, q_addLoo, q_neg, q_eq, q_ne, q_eqI, q_eqS, q_eqB, q_eqIB, q_eqBI, q_eqT, q_eqSI, q_eqIS, q_eqIT, q_eqTI, q_eqNI, q_eqIN, q_is, q_isnt, q_isNnon, q_isNint, q_isNbl, q_isNstr, q_isNtup, q_isNref, q_lt, q_gt, q_le, q_leT, q_ge, q_in, q_notin, q_trN, q_trB, q_trI, q_trT, q_trS, q_asB, q_subT, q_subR, q_subO, q_subM, q_nodeO, q_nodeR, q_nodeM, q_cutT, q_cutR, q_revT, q_intOf, q_lstR, q_lstM, q_lstO, q_lenT, q_lenS, q_lenR, q_lenO, q_lenM, q_abs, q_intI, q_intB, q_allM, q_anyM, q_sumM, q_tupT, q_tupM, q_tupO, q_tupR, q_listT, q_listM, q_listR, q_listO, q_isi, q_tyN, q_tyB, q_tyI, q_tyS, q_tyT, q_tyR, q_metOk, q_append, q_pop, q_popI, q_setO, q_setR, q_putO, q_walkT, q_walkM, q_walkR, q_walkO, q_setN, q_setM, q_setV, q_setlO, q_rng1, q_rng2, q_settV, q_settT, q_settO, q_opdV, q_opdN, q_addO, q_appL, q_popL, q_sortT, q_sortM, q_sortR, q_sortO, q_sset, q_max, q_min, q_mulT, q_cutO, q_cutM, q_enT, q_enM, q_inIT, q_inTT, q_inIR, q_eqMM, q_extend, q_insert, q_extL, q_insL, q_allO, q_allR, q_anyO, q_anyR, q_sumO, q_sumR, l6]
            exact (hI2 _ _ _ _).mpr ⟨pre ++ [p], post, .val (wD p.1), .val (.int p.2), by rw [e]; simp, rfl, by simp [stepR]⟩
      have after : ∀ (l : Nat) (y2 : List Node) (hl : (h ++ y2)[l]? = some (.lst ((rowsR (thK i) k).map encR))) s, I2 l (h ++ y2) [] s → (Walk.mk ((rowsR (thK i) k).map encR) (some (.val (.ref l), (rowsR (thK i) k).map encR))).same s = true ∧ Ok (semSs T (.cons (.set 5 (.var 8))
  (.cons (.set 6 (.bin .add (.var 6) (.lc [9, 10] (.var 9) (.tup [(.name 9), (.name 10)]) (.var 5) .nil)))
  .nil))) s fun f s2 => match f with
          | .next => J ((upD 0 m).drop (k + 1)) s2
          | .cont => J ((upD 0 m).drop (k + 1)) s2
          | .brk => False
          | .ret _ => False := by
        intro l y2 hl s hs
        obtain ⟨pre, post, x9, x10, e, ed, rfl⟩ := (hI2 _ _ _ _).mp hs
        have hp0 : post = [] := by simpa using ed.symm
        subst hp0
        rw [List.append_nil] at e
        subst e
        refine ⟨ref_same hl, ?_⟩
        have e3 : stepR (thK i) (rowsR (thK i) k) = rowsR (thK i) (k + 1) := rfl
        have rl3 := (rows_line hA (k + 1)).1
        have ll3 := lineL_len hK8 (k + 1)
        have pk2 := pow8 (n := k + 1) (by omega)
        simp [fn_mkF, semSs, semS, sems, sem, mean, ok_seq, ok_thenN, ok_drop, ok_mRet, ok_mPar, ok_bind', ok_bind, ok_pure, ok_pure', ok_val, ok_tmp, ok_bl, ok_ite, ok_call, ok_lc, ok_lc2, ok_op2, ok_cmp, ok_truth, ok_subO, ok_cutO, ok_revO, ok_negO, ok_intOf, ok_bi, ok_meth, ok_metOk, ok_putO, ok_isi, ok_mVar, ok_toD, ok_stO, ok_rvO, ok_asB, ok_settle, ok_mRng, ok_walkO, ok_enumO, ok_ssetO, ok_put, ok_putT, ok_puts0, ok_putsC, ok_setNode, ok_mDs0, ok_mDsC, ok_mOs0, ok_mOsC, ok_mPart0, ok_mPart1, ok_mIfs0, ok_mIfsC, okM_ok, okM_stuck, okM_exc, okM_ite, Ty.below, atI_nat, atI_0, atI_1, atI_2, atI_3, atI_4, atI_5, atI_6, atI_7, atI_last, q_dII, q_dSS, q_dBB, q_dNN, q_dTT, q_dNI, q_dIN, q_dSI, q_dIS, q_dIT, q_dTI, q_dNT, q_dTN, q_dST, q_dTS, q_ds0, q_dsC, q_dsL, q_dsR, q_fI, q_fB, q_fN, q_fT, q_fS, q_f0, q_fC, q_mVar, q_toDv, q_toDt, q_toDo, q_stOv, q_stOt, q_stOo, q_rvOv, q_rvOt, q_rvOo, q_put, q_addI, q_addT, q_addS, q_subI, q_mulI, q_fdivI, q_modI, q_powI, q_shlI, q_shrI, q_addLtt, q_addLot, q_addLoo, q_neg, q_eq, q_ne, q_eqI, q_eqS, q_eqB, q_eqIB, q_eqBI, q_eqT, q_eqSI, q_eqIS, q_eqIT, q_eqTI, q_eqNI, q_eqIN, q_is, q_isnt, q_isNnon, q_isNint, q_isNbl, q_isNstr, q_isNtup, q_isNref, q_lt, q_gt, q_le, q_leT, q_ge, q_in, q_notin, q_trN, q_trB, q_trI, q_trT, q_trS, q_asB, q_subT, q_subR, q_subO, q_subM, q_nodeO, q_nodeR, q_nodeM, q_cutT, q_cutR, q_revT, q_intOf, q_lstR, q_lstM, q_lstO, q_lenT, q_lenS, q_lenR, q_lenO, q_lenM, q_abs, q_intI, q_intB, q_allM, q_anyM, q_sumM, q_tupT, q_tupM, q_tupO, q_tupR, q_listT, q_listM, q_listR, q_listO, q_isi, q_tyN, q_tyB, q_tyI, q_tyS, q_tyT, q_tyR, q_metOk, q_append, q_pop, q_popI, q_setO, q_setR, q_putO, q_walkT, q_walkM, q_walkR, q_walkO, q_setN, q_setM, q_setV, q_setlO, q_rng1, q_rng2, q_settV, q_settT, q_settO, q_opdV, q_opdN, q_addO, q_appL, q_popL, q_sortT, q_sortM, q_sortR, q_sortO, q_sset, q_max, q_min, q_mulT, q_cutO, q_cutM, q_enT, q_enM, q_inIT, q_inTT, q_inIR, q_eqMM, q_extend, q_insert, q_extL, q_insL, q_allO, q_allR, q_anyO, q_anyR, q_sumO, q_sumR, e3, wipe]
        refine ok_lc_of (rowsR (thK i) (k + 1)) encR (fun p => some (wD p.1)) (w := ⟨(rowsR (thK i) (k + 1)).map encR, some (.val (.ref (h.length + y2.length)), (rowsR (thK i) (k + 1)).map encR)⟩) (own := [9, 10]) (sl := [.val (.int i), .val (.int m), .own (.lst (wsD (thK i))), x3, .unset, .val (.ref (h.length + y2.length)), .own (.lst (wsW (foundL (thK i) k))), .val (.int k), .val (.ref (h.length + y2.length)), x9, x10, .unset]) (hp := h ++ (y2 ++ [.lst ((rowsR (thK i) (k + 1)).map encR)])) rfl (ref_same (by rw [← List.append_assoc, ← List.length_append]; simp)) (by omega) (fun p hp => ?_) ?_
        · simp [wipe, encR, fn_mkF, semSs, semS, sems, sem, mean, ok_seq, ok_thenN, ok_drop, ok_mRet, ok_mPar, ok_bind', ok_bind, ok_pure, ok_pure', ok_val, ok_tmp, ok_bl, ok_ite, ok_call, ok_lc, ok_lc2, ok_op2, ok_cmp, ok_truth, ok_subO, ok_cutO, ok_revO, ok_negO, ok_intOf, ok_bi, ok_meth, ok_metOk, ok_putO, ok_isi, ok_mVar, ok_toD, ok_stO, ok_rvO, ok_asB, ok_settle, ok_mRng, ok_walkO, ok_enumO, ok_ssetO, ok_put, ok_putT, ok_puts0, ok_putsC, ok_setNode, ok_mDs0, ok_mDsC, ok_mOs0, ok_mOsC, ok_mPart0, ok_mPart1, ok_mIfs0, ok_mIfsC, okM_ok, okM_stuck, okM_exc, okM_ite, Ty.below, atI_nat, atI_0, atI_1, atI_2, atI_3, atI_4, atI_5, atI_6, atI_7, atI_last, q_dII, q_dSS, q_dBB, q_dNN, q_dTT, q_dNI, q_dIN, q_dSI, q_dIS, q_dIT, q_dTI, q_dNT, q_dTN, q_dST, q_dTS, q_ds0, q_dsC, q_dsL, q_dsR, q_fI, q_fB, q_fN, q_fT, q_fS, q_f0, q_fC, q_mVar, q_toDv, q_toDt, q_toDo, q_stOv, q_stOt, q_stOo, q_rvOv, q_rvOt, q_rvOo, q_put, q_addI, q_addT, q_addS, q_subI, q_mulI, q_fdivI, q_modI, q_powI, q_shlI, q_shrI, q_addLtt, q_addLot, q_addLoo, q_neg, q_eq, q_ne, q_eqI, q_eqS, q_eqB, q_eqIB, q_eqBI, q_eqT, q_eqSI, q_eqIS, q_eqIT, q_eqTI, q_eqNI, q_eqIN, q_is, q_isnt, q_isNnon, q_isNint, q_isNbl, q_isNstr, q_isNtup, q_isNref, q_lt, q_gt, q_le, q_leT, q_ge, q_in, q_notin, q_trN, q_trB, q_trI, q_trT, q_trS, q_asB, q_subT, q_subR, q_subO, q_subM, q_nodeO, q_nodeR, q_nodeM, q_cutT, q_cutR, q_revT, q_intOf, q_lstR, q_lstM, q_lstO, q_lenT, q_lenS, q_lenR, q_lenO, q_lenM, q_abs, q_intI, q_intB, q_allM, q_anyM, q_sumM, q_tupT, q_tupM, q_tupO, q_tupR, q_listT, q_listM, q_listR, q_listO, q_isi, q_tyN, q_tyB, q_tyI, q_tyS, q_tyT, q_tyR, q_metOk, q_append, q_pop, q_popI, q_setO, q_setR, q_putO, q_walkT, q_walkM, q_walkR, q_walkO, q_setN, q_setM, q_setV, q_setlO, q_rng1, q_rng2, q_settV, q_settT, q_settO, q_opdV, q_opdN, q_addO, q_appL, q_popL, q_sortT, q_sortM, q_sortR, q_sortO, q_sset, q_max, q_min, q_mulT, q_cutO, q_cutM, q_enT, q_enM, q_inIT, q_inTT, q_inIR, q_eqMM, q_extend, q_insert, q_extL, q_insL, q_allO, q_allR, q_anyO, q_anyR, q_sumO, q_sumR]
        · rw [filterMap_some]
          have e5 : ((rowsR (thK i) (k + 1)).map fun p => wD p.1) = wsW (lineL (thK i) (k + 1)) := by rw [← rl3]; simp [wsW]
          rw [e5]
          have l7 : (wsW (foundL (thK i) k)).length + (wsW (lineL (thK i) (k + 1))).length ≤ lim := by rw [wsW_len, wsW_len]; omega
          simp [wipe, unwipe, fn_mkF, semSs, semS, sems, sem, mean, ok_seq, ok_thenN, ok_drop, ok_mRet, ok_mPar, ok_bind', ok_bind, ok_pure, ok_pure', ok_val, ok_tmp, ok_bl, ok_ite, ok_call, ok_lc, ok_lc2, ok_op2, ok_cmp, ok_truth, ok_subO, ok_cutO, ok_revO, ok_negO, ok_intOf, ok_bi, ok_meth, ok_metOk, ok_putO, ok_isi, ok_mVar, ok_toD, ok_stO, ok_rvO, ok_asB, ok_settle, ok_mRng, ok_walkO, ok_enumO, ok_ssetO, ok_put, ok_putT, ok_puts0, ok_putsC, ok_setNode, ok_mDs0, ok_mDsC, ok_mOs0, ok_mOsC, ok_mPart0, ok_mPart1, ok_mIfs0, ok_mIfsC, okM_ok, okM_stuck, okM_exc, okM_ite, Ty.below, atI_nat, atI_0, atI_1, atI_2, atI_3, atI_4, atI_5, atI_6, atI_7, atI_last, q_dII, q_dSS, q_dBB, q_dNN, q_dTT, q_dNI, q_dIN, q_dSI, q_dIS, q_dIT, q_dTI, q_dNT, q_dTN, q_dST, q_dTS, q_ds0, q_dsC, q_dsL, q_dsR, q_fI, q_fB, q_fN, q_fT, q_fS, q_f0, q_fC, q_mVar, q_toDv, q_toDt, q_toDo, q_stOv, q_stOt, q_stOo, q_rvOv, q_rvOt, q_rvOo, q_put, q_addI, q_addT, q_addS, q_subI, q_mulI, q_fdivI, q_modI, q_powI, q_shlI, q_shrI, q_addLtt, q_addLot, q_addLoo, q_neg, q_eq, q_ne, q_eqI, q_eqS, q_eqB, q_eqIB, q_eqBI, q_eqT, q_eqSI, q_eqIS, q_eqIT, q_eqTI, q_eqNI, q_eqIN, q_is, q_isnt, q_isNnon, q_isNint, q_isNbl, q_isNstr, q_isNtup, q_isNref, q_lt, q_gt, q_le, q_leT, q_ge, q_in, q_notin, q_trN, q_trB, q_trI, q_trT, q_trS, q_asB, q_subT, q_subR, q_subO, q_subM, q_nodeO, q_nodeR, q_nodeM, q_cutT, q_cutR, q_revT, q_intOf, q_lstR, q_lstM, q_lstO, q_lenT, q_lenS, q_lenR, q_lenO, q_lenM, q_abs, q_intI, q_intB, q_allM, q_anyM, q_sumM, q_tupT, q_tupM, q_tupO, q_tupR, q_listT, q_listM, q_listR, q_listO, q_isi, q_tyN, q_tyB, q_tyI, q_tyS, q_tyT, q_tyR, q_metOk, q_append, q_pop, q_popI, q_setO, q_setR, q_putO, q_walkT, q_walkM, q_walkR, q_walkO, q_setN, q_setM, q_setV, q_setlO, q_rng1, q_rng2, q_settV, q_settT, q_settO, q_opdV, q_opdN, q_addO, q_appL, q_popL, q_sortT, q_sortM, q_sortR, q_sortO, q_sset, q_max, q_min, q_mulT, q_cutO, q_cutM, q_enT, q_enM, q_inIT, q_inTT, q_inIR, q_eqMM, q_extend, q_insert, q_extL, q_insL, q_allO, q_allR, q_anyO, q_anyR, q_sumO, q_sumR, l7]
          exact (hJ _ _).mpr ⟨k + 1, x3, .val (.ref (h.length + y2.length)), .val (.int k), .val (.ref (h.length + y2.length)), x9, x10, y2 ++ [.lst ((rowsR (thK i) (k + 1)).map encR)], by omega, rfl, .inr ⟨h.length + y2.length, rfl, by rw [← List.append_assoc, ← List.length_append]; simp⟩, by simp [foundL, wsW]⟩
      rcases hx5 with rfl | ⟨l, rfl, hl⟩
      · have hl2 : (h ++ (y ++ [.lst ((rowsR (thK i) k).map encR)]))[h.length + y.length]? = some (.lst ((rowsR (thK i) k).map encR)) := by rw [← List.append_assoc, ← List.length_append]; simp
        simp [fn_mkF, semSs, semS, sems, sem, mean, ok_seq, ok_thenN, ok_drop, ok_mRet, ok_mPar, ok_bind', ok_bind, ok_pure, ok_pure', ok_val, ok_tmp, ok_bl, ok_ite, ok_call, ok_lc, ok_lc2, ok_op2, ok_cmp, ok_truth, ok_subO, ok_cutO, ok_revO, ok_negO, ok_intOf, ok_bi, ok_meth, ok_metOk, ok_putO, ok_isi, ok_mVar, ok_toD, ok_stO, ok_rvO, ok_asB, ok_settle, ok_mRng, ok_walkO, ok_enumO, ok_ssetO, ok_put, ok_putT, ok_puts0, ok_putsC, ok_setNode, ok_mDs0, ok_mDsC, ok_mOs0, ok_mOsC, ok_mPart0, ok_mPart1, ok_mIfs0, ok_mIfsC, okM_ok, okM_stuck, okM_exc, okM_ite, Ty.below, atI_nat, atI_0, atI_1, atI_2, atI_3, atI_4, atI_5, atI_6, atI_7, atI_last, q_dII, q_dSS, q_dBB, q_dNN, q_dTT, q_dNI, q_dIN, q_dSI, q_dIS, q_dIT, q_dTI, q_dNT, q_dTN, q_dST, q_dTS, q_ds0, q_dsC, q_dsL, q_dsR, q_fI, q_fB, q_fN, q_fT, q_fS, q_f0, q_fC, q_mVar, q_toDv, q_toDt, q_toDo, q_stOv, q_stOt, q_stOo, q_rvOv, q_rvOt, q_rvOo, q_put, q_addI, q_addT, q_addS, q_subI, q_mulI, q_fdivI, q_modI, q_powI, q_shlI, q_shrI, q_addLtt, q_addLot, q_addLoo, q_neg, q_eq, q_ne, q_eqI, q_eqS, q_eqB, q_eqIB, q_eqBI, q_eqT, q_eqSI, q_eqIS, q_eqIT, q_eqTI, q_eqNI, q_eqIN, q_is, q_isnt, q_isNnon, q_isNint, q_isNbl, q_isNstr, q_isNtup, q_isNref, q_lt, q_gt, q_le, q_leT, q_ge, q_in, q_notin, q_trN, q_trB, q_trI, q_trT, q_trS, q_asB, q_subT, q_subR, q_subO, q_subM, q_nodeO, q_nodeR, q_nodeM, q_cutT, q_cutR, q_revT, q_intOf, q_lstR, q_lstM, q_lstO, q_lenT, q_lenS, q_lenR, q_lenO, q_lenM, q_abs, q_intI, q_intB, q_allM, q_anyM, q_sumM, q_tupT, q_tupM, q_tupO, q_tupR, q_listT, q_listM, q_listR, q_listO, q_isi, q_tyN, q_tyB, q_tyI, q_tyS, q_tyT, q_tyR, q_metOk, q_append, q_pop, q_popI, q_setO, q_setR, q_putO, q_walkT, q_walkM, q_walkR, q_walkO, q_setN, q_setM, q_setV, q_setlO, q_rng1, q_rng2, q_settV, q_settT, q_settO, q_opdV, q_opdN, q_addO, q_appL, q_popL, q_sortT, q_sortM, q_sortR, q_sortO, q_sset, q_max, q_min, q_mulT, q_cutO, q_cutM, q_enT, q_enM, q_inIT, q_inTT, q_inIR, q_eqMM, q_extend, q_insert, q_extL, q_insL, q_allO, q_allR, q_anyO, q_anyR, q_sumO, q_sumR]
        refine ok_for (I2 (h.length + y.length) (h ++ (y ++ [.lst ((rowsR (thK i) k).map encR)]))) (fun d ds s hs => ?_) (fun s hs => ?_) _ _ ((hI2 _ _ _ _).mpr ⟨[], rowsR (thK i) k, x9, x10, rfl, rfl, by simp [stepR]⟩)
        · obtain ⟨t1, t2⟩ := turn _ _ hl2 d ds s hs
          exact ⟨t1, t2.mono fun _ s1 kk => Ok.mono kk fun f s2 k2 => by cases f <;> first | exact k2 | exact k2.elim⟩
        · obtain ⟨t1, t2⟩ := after _ _ hl2 s hs
          refine ⟨t1, ?_⟩
          simpa [fn_mkF, semSs, semS, sems, sem, mean, ok_seq, ok_thenN, ok_drop, ok_mRet, ok_mPar, ok_bind', ok_bind, ok_pure, ok_pure', ok_val, ok_tmp, ok_bl, ok_ite, ok_call, ok_lc, ok_lc2, ok_op2, ok_cmp, ok_truth, ok_subO, ok_cutO, ok_revO, ok_negO, ok_intOf, ok_bi, ok_meth, ok_metOk, ok_putO, ok_isi, ok_mVar, ok_toD, ok_stO, ok_rvO, ok_asB, ok_settle, ok_mRng, ok_walkO, ok_enumO, ok_ssetO, ok_put, ok_putT, ok_puts0, ok_putsC, ok_setNode, ok_mDs0, ok_mDsC, ok_mOs0, ok_mOsC, ok_mPart0, ok_mPart1, ok_mIfs0, ok_mIfsC, okM_ok, okM_stuck, okM_exc, okM_ite, Ty.below, atI_nat, atI_0, atI_1, atI_2, atI_3, atI_4, atI_5, atI_6, atI_7, atI_last, q_dII, q_dSS, q_dBB, q_dNN, q_dTT, q_dNI, q_dIN, q_dSI, q_dIS, q_dIT, q_dTI, q_dNT, q_dTN, q_dST, q_dTS, q_ds0, q_dsC, q_dsL, q_dsR, q_fI, q_fB, q_fN, q_fT, q_fS, q_f0, q_fC, q_mVar, q_toDv, q_toDt, q_toDo, q_stOv, q_stOt, q_stOo, q_rvOv, q_rvOt, q_rvOo, q_put, q_addI, q_addT, q_addS, q_subI, q_mulI, q_fdivI, q_modI, q_powI, q_shlI, q_shrI, q_addLtt, q_addLot, q_addLoo, q_neg, q_eq, q_ne, q_eqI, q_eqS, q_eqB, q_eqIB, q_eqBI, q_eqT, q_eqSI, q_eqIS, q_eqIT, q_eqTI, q_eqNI, q_eqIN, q_is, q_isnt, q_isNnon, q_isNint, q_isNbl, q_isNstr, q_isNtup, q_isNref, q_lt, q_gt, q_le, q_leT, q_ge, q_in, q_notin, q_trN, q_trB, q_trI, q_trT, q_trS, q_asB, q_subT, q_subR, q_subO, q_subM, q_nodeO, q_nodeR, q_nodeM, q_cutT, q_cutR, q_revT, q_intOf, q_lstR, q_lstM, q_lstO, q_lenT, q_lenS, q_lenR, q_lenO, q_lenM, q_abs, q_intI, q_intB, q_allM, q_anyM, q_sumM, q_tupT, q_tupM, q_tupO, q_tupR, q_listT, q_listM, q_listR, q_listO, q_isi, q_tyN, q_tyB, q_tyI, q_tyS, q_tyT, q_tyR, q_metOk, q_append, q_pop, q_popI, q_setO, q_setR, q_putO, q_walkT, q_walkM, q_walkR, q_walkO, q_setN, q_setM, q_setV, q_setlO, q_rng1, q_rng2, q_settV, q_settT, q_settO, q_opdV, q_opdN, q_addO, q_appL, q_popL, q_sortT, q_sortM, q_sortR, q_sortO, q_sset, q_max, q_min, q_mulT, q_cutO, q_cutM, q_enT, q_enM, q_inIT, q_inTT, q_inIR, q_eqMM, q_extend, q_insert, q_extL, q_insL, q_allO, q_allR, q_anyO, q_anyR, q_sumO, q_sumR] using t2
      · simp [fn_mkF, semSs, semS, sems, sem, mean, ok_seq, ok_thenN, ok_drop, ok_mRet, ok_mPar, ok_bind', ok_bind, ok_pure, ok_pure', ok_val, ok_tmp, ok_bl, ok_ite, ok_call, ok_lc, ok_lc2, ok_op2, ok_cmp, ok_truth, ok_subO, ok_cutO, ok_revO, ok_negO, ok_intOf, ok_bi, ok_meth, ok_metOk, ok_putO, ok_isi, ok_mVar, ok_toD, ok_stO, ok_rvO, ok_asB, ok_settle, ok_mRng, ok_walkO, ok_enumO, ok_ssetO, ok_put, ok_putT, ok_puts0, ok_putsC, ok_setNode, ok_mDs0, ok_mDsC, ok_mOs0, ok_mOsC, ok_mPart0, ok_mPart1, ok_mIfs0, ok_mIfsC, okM_ok, okM_stuck, okM_exc, okM_ite, Ty.below, atI_nat, atI_0, atI_1, atI_2, atI_3, atI_4, atI_5, atI_6, atI_7, atI_last, q_dII, q_dSS, q_dBB, q_dNN, q_dTT, q_dNI, q_dIN, q_dSI, q_dIS, q_dIT, q_dTI, q_dNT, q_dTN, q_dST, q_dTS, q_ds0, q_dsC, q_dsL, q_dsR, q_fI, q_fB, q_fN, q_fT, q_fS, q_f0, q_fC, q_mVar, q_toDv, q_toDt, q_toDo, q_stOv, q_stOt, q_stOo, q_rvOv, q_rvOt, q_rvOo, q_put, q_addI, q_addT, q_addS, q_subI, q_mulI, q_fdivI, q_modI, q_powI, q_shlI, q_shrI, q_addLtt, q_addLot, q_addLoo, q_neg, q_eq, q_ne, q_eqI, q_eqS, q_eqB, q_eqIB, q_eqBI, q_eqT, q_eqSI, q_eqIS, q_eqIT, q_eqTI, q_eqNI, q_eqIN, q_is, q_isnt, q_isNnon, q_isNint, q_isNbl, q_isNstr, q_isNtup, q_isNref, q_lt, q_gt, q_le, q_leT, q_ge, q_in, q_notin, q_trN, q_trB, q_trI, q_trT, q_trS, q_asB, q_subT, q_subR, q_subO, q_subM, q_nodeO, q_nodeR, q_nodeM, q_cutT, q_cutR, q_revT, q_intOf, q_lstR, q_lstM, q_lstO, q_lenT, q_lenS, q_lenR, q_lenO, q_lenM, q_abs, q_intI, q_intB, q_allM, q_anyM, q_sumM, q_tupT, q_tupM, q_tupO, q_tupR, q_listT, q_listM, q_listR, q_listO, q_isi, q_tyN, q_tyB, q_tyI, q_tyS, q_tyT, q_tyR, q_metOk, q_append, q_pop, q_popI, q_setO, q_setR, q_putO, q_walkT, q_walkM, q_walkR, q_walkO, q_setN, q_setM, q_setV, q_setlO, q_rng1, q_rng2, q_settV, q_settT, q_settO, q_opdV, q_opdN, q_addO, q_appL, q_popL, q_sortT, q_sortM, q_sortR, q_sortO, q_sset, q_max, q_min, q_mulT, q_cutO, q_cutM, q_enT, q_enM, q_inIT, q_inTT, q_inIR, q_eqMM, q_extend, q_insert, q_extL, q_insL, q_allO, q_allR, q_anyO, q_anyR, q_sumO, q_sumR, hl]
        refine ok_for (I2 l (h ++ y)) (fun d ds s hs => ?_) (fun s hs => ?_) _ _ ((hI2 _ _ _ _).mpr ⟨[], rowsR (thK i) k, x9, x10, rfl, rfl, by simp [stepR]⟩)
        · obtain ⟨t1, t2⟩ := turn l (h ++ y) hl d ds s hs
          exact ⟨t1, t2.mono fun _ s1 kk => Ok.mono kk fun f s2 k2 => by cases f <;> first | exact k2 | exact k2.elim⟩
        · obtain ⟨t1, t2⟩ := after l y hl s hs
          refine ⟨t1, ?_⟩
          simpa [fn_mkF, semSs, semS, sems, sem, mean, ok_seq, ok_thenN, ok_drop, ok_mRet, ok_mPar, ok_bind', ok_bind, ok_pure, ok_pure', ok_val, ok_tmp, ok_bl, ok_ite, ok_call, ok_lc, ok_lc2, ok_op2, ok_cmp, ok_truth, ok_subO, ok_cutO, ok_revO, ok_negO, ok_intOf, ok_bi, ok_meth, ok_metOk, ok_putO, ok_isi, ok_mVar, ok_toD, ok_stO, ok_rvO, ok_asB, ok_settle, ok_mRng, ok_walkO, ok_enumO, ok_ssetO, ok_put, ok_putT, ok_puts0, ok_putsC, ok_setNode, ok_mDs0, ok_mDsC, ok_mOs0, ok_mOsC, ok_mPart0, ok_mPart1, ok_mIfs0, ok_mIfsC, okM_ok, okM_stuck, okM_exc, okM_ite, Ty.below, atI_nat, atI_0, atI_1, atI_2, atI_3, atI_4, atI_5, atI_6, atI_7, atI_last, q_dII, q_dSS, q_dBB, q_dNN, q_dTT, q_dNI, q_dIN, q_dSI, q_dIS, q_dIT, q_dTI, q_dNT, q_dTN, q_dST, q_dTS, q_ds0, q_dsC, q_dsL, q_dsR, q_fI, q_fB, q_fN, q_fT, q_fS, q_f0, q_fC, q_mVar, q_toDv, q_toDt, q_toDo, q_stOv, q_stOt, q_stOo, q_rvOv, q_rvOt, q_rvOo, q_put, q_addI, q_addT, q_addS, q_subI, q_mulI, q_fdivI, q_modI, q_powI, q_shlI, q_shrI, q_addLtt, q_addLot, q_addLoo, q_neg, q_eq, q_ne, q_eqI, q_eqS, q_eqB, q_eqIB, q_eqBI, q_eqT, q_eqSI, q_eqIS, q_eqIT, q_eqTI, q_eqNI, q_eqIN, q_is, q_isnt, q_isNnon, q_isNint, q_isNbl, q_isNstr, q_isNtup, q_isNref, q_lt, q_gt, q_le, q_leT, q_ge, q_in, q_notin, q_trN, q_trB, q_trI, q_trT, q_trS, q_asB, q_subT, q_subR, q_subO, q_subM, q_nodeO, q_nodeR, q_nodeM, q_cutT, q_cutR, q_revT, q_intOf, q_lstR, q_lstM, q_lstO, q_lenT, q_lenS, q_lenR, q_lenO, q_lenM, q_abs, q_intI, q_intB, q_allM, q_anyM, q_sumM, q_tupT, q_tupM, q_tupO, q_tupR, q_listT, q_listM, q_listR, q_listO, q_isi, q_tyN, q_tyB, q_tyI, q_tyS, q_tyT, q_tyR, q_metOk, q_append, q_pop, q_popI, q_setO, q_setR, q_putO, q_walkT, q_walkM, q_walkR, q_walkO, q_setN, q_setM, q_setV, q_setlO, q_rng1, q_rng2, q_settV, q_settT, q_settO, q_opdV, q_opdN, q_addO, q_appL, q_popL, q_sortT, q_sortM, q_sortR, q_sortO, q_sset, q_max, q_min, q_mulT, q_cutO, q_cutM, q_enT, q_enM, q_inIT, q_inTT, q_inIR, q_eqMM, q_extend, q_insert, q_extL, q_insL, q_allO, q_allR, q_anyO, q_anyR, q_sumO, q_sumR] using t2
    · intro s hs
      obtain ⟨k, x3, x5, x7, x8, x9, x10, y, hk, hds, hx5, rfl⟩ := (hJ _ _).mp hs
      have hie : k = m := by
        have := congrArg List.length hds
        simp [upD] at this
        omega
      subst hie
      refine ⟨same_none, ?_⟩
      have fs := found_small h0 h1 hm
      have fl1 := flat_W 58 (foundL (thK i) k)
      have fl2 := likes_W (foundL (thK i) k)
      have fl3 := wsW_len (foundL (thK i) k)
      have fl4 : (foundL (thK i) k).length ≤ lim := by omega
      obtain ⟨z, ez⟩ := gc_ext h y (.node (.lst (D.srt (wsW (foundL (thK i) k)))))
      simp [fn_mkF, semSs, semS, sems, sem, mean, ok_seq, ok_thenN, ok_drop, ok_mRet, ok_mPar, ok_bind', ok_bind, ok_pure, ok_pure', ok_val, ok_tmp, ok_bl, ok_ite, ok_call, ok_lc, ok_lc2, ok_op2, ok_cmp, ok_truth, ok_subO, ok_cutO, ok_revO, ok_negO, ok_intOf, ok_bi, ok_meth, ok_metOk, ok_putO, ok_isi, ok_mVar, ok_toD, ok_stO, ok_rvO, ok_asB, ok_settle, ok_mRng, ok_walkO, ok_enumO, ok_ssetO, ok_put, ok_putT, ok_puts0, ok_putsC, ok_setNode, ok_mDs0, ok_mDsC, ok_mOs0, ok_mOsC, ok_mPart0, ok_mPart1, ok_mIfs0, ok_mIfsC, okM_ok, okM_stuck, okM_exc, okM_ite, Ty.below, atI_nat, atI_0, atI_1, atI_2, atI_3, atI_4, atI_5, atI_6, atI_7, atI_last, q_dII, q_dSS, q_dBB, q_dNN, q_dTT, q_dNI, q_dIN, q_dSI, q_dIS, q_dIT, q_dTI, q_dNT, q_dTN, q_dST, q_dTS, q_ds0, q_dsC, q_dsL, q_dsR, q_fI, q_fB, q_fN, q_fT, q_fS, q_f0, q_fC, q_mVar, q_toDv, q_toDt, q_toDo, q_stOv, q_stOt, q_stOo, q_rvOv, q_rvOt, q_rvOo, q_put, q_addI, q_addT, q_addS, q_subI, q_mulI, q_fdivI, q_modI, q_powI, q_shlI, q_shrI, q_addLtt, q_addLot, q_addLoo, q_neg, q_eq, q_ne, q_eqI, q_eqS, q_eqB, q_eqIB, q_eqBI, q_eqT, q_eqSI, q_eqIS, q_eqIT, q_eqTI, q_eqNI, q_eqIN, q_is, q_isnt, q_isNnon, q_isNint, q_isNbl, q_isNstr, q_isNtup, q_isNref, q_lt, q_gt, q_le, q_leT, q_ge, q_in, q_notin, q_trN, q_trB, q_trI, q_trT, q_trS, q_asB, q_subT, q_subR, q_subO, q_subM, q_nodeO, q_nodeR, q_nodeM, q_cutT, q_cutR, q_revT, q_intOf, q_lstR, q_lstM, q_lstO, q_lenT, q_lenS, q_lenR, q_lenO, q_lenM, q_abs, q_intI, q_intB, q_allM, q_anyM, q_sumM, q_tupT, q_tupM, q_tupO, q_tupR, q_listT, q_listM, q_listR, q_listO, q_isi, q_tyN, q_tyB, q_tyI, q_tyS, q_tyT, q_tyR, q_metOk, q_append, q_pop, q_popI, q_setO, q_setR, q_putO, q_walkT, q_walkM, q_walkR, q_walkO, q_setN, q_setM, q_setV, q_setlO, q_rng1, q_rng2, q_settV, q_settT, q_settO, q_opdV, q_opdN, q_addO, q_appL, q_popL, q_sortT, q_sortM, q_sortR, q_sortO, q_sset, q_max, q_min, q_mulT, q_cutO, q_cutM, q_enT, q_enM, q_inIT, q_inTT, q_inIR, q_eqMM, q_extend, q_insert, q_extL, q_insL, q_allO, q_allR, q_anyO, q_anyR, q_sumO, q_sumR, fl1, fl2, fl3, fl4, ez]
      exact q z
end G

/-! G11: books drawn. -/
set_option linter.all false
set_option maxRecDepth 100000
set_option Elab.async false
set_option autoImplicit false
set_option maxHeartbeats 0
namespace G
open PySem Y
def BookSp (R : Jr) (f : FnD) : Prop := ∀ (many count most : Nat) (h : List Node), 1 ≤ many → many ≤ 8 → count ≤ 1000 → most ≤ 1000 → R.ok h → ∀ {Q : RV → List Node → Prop},
  (∀ (names : List D) (ss : List Sen) h', names.length = many → ss.length = count → (∀ s ∈ ss, s.ok many (if (most : Int) < 1 then 1 else most)) → Keep R h h' → Q (.val (bk names ss)) h') → Fn f [.ref R.at_, .int many, .int count, .int most] h Q
def irBook : ISs := (.cons (.set 4 (.cut (.tup (.cons (.str "a") (.cons (.str "cats") (.cons (.str "b2") (.cons (.str "pets") (.cons (.str "dogs") (.cons (.str "x") (.cons (.str "abcdefgh") (.cons (.str "m1") .nil))))))))) .nil (.cons (.var 1) .nil)))
  (.cons (.ret (.tup (.cons (.var 4) (.cons (.bi .tuple (.cons (.lc [5] (.call 1274 (.cons (.var 0) (.cons (.var 1) (.cons (.var 3) .nil)))) (.name 5) (.rng (.cons (.var 2) .nil)) .nil) .nil)) .nil))))
  .nil))
theorem book_sp {R : Jr} {T : Tb} (se : SenSp R (T.fn 1274)) : BookSp R (mkF 6 (semSs T irBook)) := by
  intro many count most h h0 h1 h2 h3 o Q q
  have hlim := lim_eq
  have smc : small (count : Int) := ⟨by omega, by omega⟩
  obtain ⟨names, hnm⟩ : ∃ names : List D, names = cut [.str "a", .str "cats", .str "b2", .str "pets", .str "dogs", .str "x", .str "abcdefgh", .str "m1"] none (some (many : Int)) := ⟨_, rfl⟩
  have hnl : names.length = many := by
    rw [hnm, cut_hi, List.length_take]
    simp
    omega
  simp [irBook, fn_mkF, semSs, semS, sems, sem, mean, ok_seq, ok_thenN, ok_drop, ok_mRet, ok_mPar, ok_bind', ok_bind, ok_pure, ok_pure', ok_val, ok_tmp, ok_bl, ok_ite, ok_call, ok_lc, ok_lc2, ok_op2, ok_cmp, ok_truth, ok_subO, ok_cutO, ok_revO, ok_negO, ok_intOf, ok_bi, ok_meth, ok_metOk, ok_putO, ok_isi, ok_mVar, ok_toD, ok_stO, ok_rvO, ok_asB, ok_settle, ok_mRng, ok_walkO, ok_enumO, ok_ssetO, ok_put, ok_putT, ok_puts0, ok_putsC, ok_setNode, ok_mDs0, ok_mDsC, ok_mOs0, ok_mOsC, ok_mPart0, ok_mPart1, ok_mIfs0, ok_mIfsC, okM_ok, okM_stuck, okM_exc, okM_ite, Ty.below, atI_nat, atI_0, atI_1, atI_2, atI_3, atI_4, atI_5, atI_6, atI_7, atI_last, q_dII, q_dSS, q_dBB, q_dNN, q_dTT, q_dNI, q_dIN, q_dSI, q_dIS, q_dIT, q_dTI, q_dNT, q_dTN, q_dST, q_dTS, q_ds0, q_dsC, q_dsL, q_dsR, q_fI, q_fB, q_fN, q_fT, q_fS, q_f0, q_fC, q_mVar, q_toDv, q_toDt, q_toDo, q_stOv, q_stOt, q_stOo, q_rvOv, q_rvOt, q_rvOo, q_put, q_addI, q_addT, q_addS, q_subI, q_mulI, q_fdivI, q_modI, q_powI, q_shlI, q_shrI, q_addLtt, q_addLot, q_addLoo, q_neg, q_eq, q_ne, q_eqI, q_eqS, q_eqB, q_eqIB, q_eqBI, q_eqT, q_eqSI, q_eqIS, q_eqIT, q_eqTI, q_eqNI, q_eqIN, q_is, q_isnt, q_isNnon, q_isNint, q_isNbl, q_isNstr, q_isNtup, q_isNref, q_lt, q_gt, q_le, q_leT, q_ge, q_in, q_notin, q_trN, q_trB, q_trI, q_trT, q_trS, q_asB, q_subT, q_subR, q_subO, q_subM, q_nodeO, q_nodeR, q_nodeM, q_cutT, q_cutR, q_revT, q_intOf, q_lstR, q_lstM, q_lstO, q_lenT, q_lenS, q_lenR, q_lenO, q_lenM, q_abs, q_intI, q_intB, q_allM, q_anyM, q_sumM, q_tupT, q_tupM, q_tupO, q_tupR, q_listT, q_listM, q_listR, q_listO, q_isi, q_tyN, q_tyB, q_tyI, q_tyS, q_tyT, q_tyR, q_metOk, q_append, q_pop, q_popI, q_setO, q_setR, q_putO, q_walkT, q_walkM, q_walkR, q_walkO, q_setN, q_setM, q_setV, q_setlO, q_rng1, q_rng2, q_settV, q_settT, q_settO, q_opdV, q_opdN, q_addO, q_appL, q_popL, q_sortT, q_sortM, q_sortR, q_sortO, q_sset, q_max, q_min, q_mulT, q_cutO, q_cutM, q_enT, q_enM, q_inIT, q_inTT, q_inIR, q_eqMM, q_extend, q_insert, q_extL, q_insL, q_allO, q_allR, q_anyO, q_anyR, q_sumO, q_sumR, smc, ← hnm]
  obtain ⟨I, hI⟩ : ∃ I : List D → List D → List Node → Prop, ∀ ds acc hp, I ds acc hp ↔ ∃ ss : List Sen, acc = ss.map Sen.d ∧ ss.length + ds.length = count ∧ (∀ s ∈ ss, s.ok many (if (most : Int) < 1 then 1 else most)) ∧ Keep R h hp := ⟨_, fun _ _ _ => Iff.rfl⟩
  refine ok_lcGo I ?_ ?_ _ _ _ ((hI _ _ _).mpr ⟨[], rfl, by simp [upD], by simp, .refl o⟩)
  · intro d ds acc hp hs
    obtain ⟨ss, rfl, hl, hok, k1⟩ := (hI _ _ _).mp hs
    refine ⟨same_none, ?_⟩
    simp only [List.length_cons] at hl
    simp [fn_mkF, semSs, semS, sems, sem, mean, ok_seq, ok_thenN, ok_drop, ok_mRet, ok_mPar, ok_bind', ok_bind, ok_pure, ok_pure', ok_val, ok_tmp, ok_bl, ok_ite, ok_call, ok_lc, ok_lc2, ok_op2, ok_cmp, ok_truth, ok_subO, ok_cutO, ok_revO, ok_negO, ok_intOf, ok_bi, ok_meth, ok_metOk, ok_putO, ok_isi, ok_mVar, ok_toD, ok_stO, ok_rvO, ok_asB, ok_settle, ok_mRng, ok_walkO, ok_enumO, ok_ssetO, ok_put, ok_putT, ok_puts0, ok_putsC, ok_setNode, ok_mDs0, ok_mDsC, ok_mOs0, ok_mOsC, ok_mPart0, ok_mPart1, ok_mIfs0, ok_mIfsC, okM_ok, okM_stuck, okM_exc, okM_ite, Ty.below, atI_nat, atI_0, atI_1, atI_2, atI_3, atI_4, atI_5, atI_6, atI_7, atI_last, q_dII, q_dSS, q_dBB, q_dNN, q_dTT, q_dNI, q_dIN, q_dSI, q_dIS, q_dIT, q_dTI, q_dNT, q_dTN, q_dST, q_dTS, q_ds0, q_dsC, q_dsL, q_dsR, q_fI, q_fB, q_fN, q_fT, q_fS, q_f0, q_fC, q_mVar, q_toDv, q_toDt, q_toDo, q_stOv, q_stOt, q_stOo, q_rvOv, q_rvOt, q_rvOo, q_put, q_addI, q_addT, q_addS, q_subI, q_mulI, q_fdivI, q_modI, q_powI, q_shlI, q_shrI, q_addLtt, q_addLot, q_addLoo, q_neg, q_eq, q_ne, q_eqI, q_eqS, q_eqB, q_eqIB, q_eqBI, q_eqT, q_eqSI, q_eqIS, q_eqIT, q_eqTI, q_eqNI, q_eqIN, q_is, q_isnt, q_isNnon, q_isNint, q_isNbl, q_isNstr, q_isNtup, q_isNref, q_lt, q_gt, q_le, q_leT, q_ge, q_in, q_notin, q_trN, q_trB, q_trI, q_trT, q_trS, q_asB, q_subT, q_subR, q_subO, q_subM, q_nodeO, q_nodeR, q_nodeM, q_cutT, q_cutR, q_revT, q_intOf, q_lstR, q_lstM, q_lstO, q_lenT, q_lenS, q_lenR, q_lenO, q_lenM, q_abs, q_intI, q_intB, q_allM, q_anyM, q_sumM, q_tupT, q_tupM, q_tupO, q_tupR, q_listT, q_listM, q_listR, q_listO, q_isi, q_tyN, q_tyB, q_tyI, q_tyS, q_tyT, q_tyR, q_metOk, q_append, q_pop, q_popI, q_setO, q_setR, q_putO, q_walkT, q_walkM, q_walkR, q_walkO, q_setN, q_setM, q_setV, q_setlO, q_rng1, q_rng2, q_settV, q_settT, q_settO, q_opdV, q_opdN, q_addO, q_appL, q_popL, q_sortT, q_sortM, q_sortR, q_sortO, q_sset, q_max, q_min, q_mulT, q_cutO, q_cutM, q_enT, q_enM, q_inIT, q_inTT, q_inIR, q_eqMM, q_extend, q_insert, q_extL, q_insL, q_allO, q_allR, q_anyO, q_anyR, q_sumO, q_sumR, wipe]
    refine se k1.ok (by omega) (by omega) (by omega) (by omega) fun s h' sok k2 z2 => ?_
    simp [fn_mkF, semSs, semS, sems, sem, mean, ok_seq, ok_thenN, ok_drop, ok_mRet, ok_mPar, ok_bind', ok_bind, ok_pure, ok_pure', ok_val, ok_tmp, ok_bl, ok_ite, ok_call, ok_lc, ok_lc2, ok_op2, ok_cmp, ok_truth, ok_subO, ok_cutO, ok_revO, ok_negO, ok_intOf, ok_bi, ok_meth, ok_metOk, ok_putO, ok_isi, ok_mVar, ok_toD, ok_stO, ok_rvO, ok_asB, ok_settle, ok_mRng, ok_walkO, ok_enumO, ok_ssetO, ok_put, ok_putT, ok_puts0, ok_putsC, ok_setNode, ok_mDs0, ok_mDsC, ok_mOs0, ok_mOsC, ok_mPart0, ok_mPart1, ok_mIfs0, ok_mIfsC, okM_ok, okM_stuck, okM_exc, okM_ite, Ty.below, atI_nat, atI_0, atI_1, atI_2, atI_3, atI_4, atI_5, atI_6, atI_7, atI_last, q_dII, q_dSS, q_dBB, q_dNN, q_dTT, q_dNI, q_dIN, q_dSI, q_dIS, q_dIT, q_dTI, q_dNT, q_dTN, q_dST, q_dTS, q_ds0, q_dsC, q_dsL, q_dsR, q_fI, q_fB, q_fN, q_fT, q_fS, q_f0, q_fC, q_mVar, q_toDv, q_toDt, q_toDo, q_stOv, q_stOt, q_stOo, q_rvOv, q_rvOt, q_rvOo, q_put, q_addI, q_addT, q_addS, q_subI, q_mulI, q_fdivI, q_modI, q_powI, q_shlI, q_shrI, q_addLtt, q_addLot, q_addLoo, q_neg, q_eq, q_ne, q_eqI, q_eqS, q_eqB, q_eqIB, q_eqBI, q_eqT, q_eqSI, q_eqIS, q_eqIT, q_eqTI, q_eqNI, q_eqIN, q_is, q_isnt, q_isNnon, q_isNint, q_isNbl, q_isNstr, q_isNtup, q_isNref, q_lt, q_gt, q_le, q_leT, q_ge, q_in, q_notin, q_trN, q_trB, q_trI, q_trT, q_trS, q_asB, q_subT, q_subR, q_subO, q_subM, q_nodeO, q_nodeR, q_nodeM, q_cutT, q_cutR, q_revT, q_intOf, q_lstR, q_lstM, q_lstO, q_lenT, q_lenS, q_lenR, q_lenO, q_lenM, q_abs, q_intI, q_intB, q_allM, q_anyM, q_sumM, q_tupT, q_tupM, q_tupO, q_tupR, q_listT, q_listM, q_listR, q_listO, q_isi, q_tyN, q_tyB, q_tyI, q_tyS, q_tyT, q_tyR, q_metOk, q_append, q_pop, q_popI, q_setO, q_setR, q_putO, q_walkT, q_walkM, q_walkR, q_walkO, q_setN, q_setM, q_setV, q_setlO, q_rng1, q_rng2, q_settV, q_settT, q_settO, q_opdV, q_opdN, q_addO, q_appL, q_popL, q_sortT, q_sortM, q_sortR, q_sortO, q_sset, q_max, q_min, q_mulT, q_cutO, q_cutM, q_enT, q_enM, q_inIT, q_inTT, q_inIR, q_eqMM, q_extend, q_insert, q_extL, q_insL, q_allO, q_allR, q_anyO, q_anyR, q_sumO, q_sumR, wipe]
    refine ⟨by omega, (hI _ _ _).mpr ⟨ss ++ [s], by simp, by simp; omega, fun u hu => ?_, k1.trans k2⟩⟩
    rcases List.mem_append.mp hu with hu | hu
    · exact hok u hu
    · rw [List.mem_singleton.mp hu]; exact sok
  · intro acc hp hs
    obtain ⟨ss, rfl, hl, hok, k1⟩ := (hI _ _ _).mp hs
    refine ⟨same_none, ?_⟩
    simp [fn_mkF, semSs, semS, sems, sem, mean, ok_seq, ok_thenN, ok_drop, ok_mRet, ok_mPar, ok_bind', ok_bind, ok_pure, ok_pure', ok_val, ok_tmp, ok_bl, ok_ite, ok_call, ok_lc, ok_lc2, ok_op2, ok_cmp, ok_truth, ok_subO, ok_cutO, ok_revO, ok_negO, ok_intOf, ok_bi, ok_meth, ok_metOk, ok_putO, ok_isi, ok_mVar, ok_toD, ok_stO, ok_rvO, ok_asB, ok_settle, ok_mRng, ok_walkO, ok_enumO, ok_ssetO, ok_put, ok_putT, ok_puts0, ok_putsC, ok_setNode, ok_mDs0, ok_mDsC, ok_mOs0, ok_mOsC, ok_mPart0, ok_mPart1, ok_mIfs0, ok_mIfsC, okM_ok, okM_stuck, okM_exc, okM_ite, Ty.below, atI_nat, atI_0, atI_1, atI_2, atI_3, atI_4, atI_5, atI_6, atI_7, atI_last, q_dII, q_dSS, q_dBB, q_dNN, q_dTT, q_dNI, q_dIN, q_dSI, q_dIS, q_dIT, q_dTI, q_dNT, q_dTN, q_dST, q_dTS, q_ds0, q_dsC, q_dsL, q_dsR, q_fI, q_fB, q_fN, q_fT, q_fS, q_f0, q_fC, q_mVar, q_toDv, q_toDt, q_toDo, q_stOv, q_stOt, q_stOo, q_rvOv, q_rvOt, q_rvOo, q_put, q_addI, q_addT, q_addS, q_subI, q_mulI, q_fdivI, q_modI, q_powI, q_shlI, q_shrI, q_addLtt, q_addLot, q_addLoo, q_neg, q_eq, q_ne, q_eqI, q_eqS, q_eqB, q_eqIB, q_eqBI, q_eqT, q_eqSI, q_eqIS, q_eqIT, q_eqTI, q_eqNI, q_eqIN, q_is, q_isnt, q_isNnon, q_isNint, q_isNbl, q_isNstr, q_isNtup, q_isNref, q_lt, q_gt, q_le, q_leT, q_ge, q_in, q_notin, q_trN, q_trB, q_trI, q_trT, q_trS, q_asB, q_subT, q_subR, q_subO, q_subM, q_nodeO, q_nodeR, q_nodeM, q_cutT, q_cutR, q_revT, q_intOf, q_lstR, q_lstM, q_lstO, q_lenT, q_lenS, q_lenR, q_lenO, q_lenM, q_abs, q_intI, q_intB, q_allM, q_anyM, q_sumM, q_tupT, q_tupM, q_tupO, q_tupR, q_listT, q_listM, q_listR, q_listO, q_isi, q_tyN, q_tyB, q_tyI, q_tyS, q_tyT, q_tyR, q_metOk, q_append, q_pop, q_popI, q_setO, q_setR, q_putO, q_walkT, q_walkM, q_walkR, q_walkO, q_setN, q_setM, q_setV, q_setlO, q_rng1, q_rng2, q_settV, q_settT, q_settO, q_opdV, q_opdN, q_addO, q_appL, q_popL, q_sortT, q_sortM, q_sortR, q_sortO, q_sset, q_max, q_min, q_mulT, q_cutO, q_cutM, q_enT, q_enM, q_inIT, q_inTT, q_inIR, q_eqMM, q_extend, q_insert, q_extL, q_insL, q_allO, q_allR, q_anyO, q_anyR, q_sumO, q_sumR, wipe, unwipe]
    exact q names ss _ hnl (by simpa using hl) hok (k1.gc o _)
/-- so few worlds -/
theorem found_seven {K : W} (h : K.length ≤ 8) : ∀ n, 7 * (foundL K n).length ≤ 8 * 8 ^ n
  | 0 => by simp [foundL]
  | n + 1 => by
    have ih := found_seven h n
    have := lineL_len h (n + 1)
    simp only [foundL, List.length_append]
    have e : 8 ^ (n + 1) = 8 ^ n * 8 := Nat.pow_succ ..
    omega
theorem wts_int (t : List Int) : wts (t.map .int) = t.length := by
  induction t with
  | nil => rfl
  | cons a t ih => simp [wts, wt, ih]; omega
theorem wt_thing (t : List Int) : wt (tD t) = t.length + 1 := by simp [tD, wt, wts_int]
theorem wts_things (n : Nat) : ∀ w : W, (∀ t ∈ w, t.length ≤ n) → wts (wsD w) ≤ w.length * (n + 1)
  | [], _ => by simp [wsD, wts]
  | t :: w, h => by
    have ih := wts_things n w fun u hu => h u (List.mem_cons_of_mem _ hu)
    have h1 := h t List.mem_cons_self
    have : wts (wsD (t :: w)) = wt (tD t) + wts (wsD w) := rfl
    rw [this, wt_thing, List.length_cons, Nat.add_mul]
    omega
theorem wt_world (n m : Nat) {w : W} (h : ∀ t ∈ w, t.length ≤ n) (hl : w.length ≤ m) : wt (wD w) ≤ m * (n + 1) + 1 := by
  have := wts_things n w h
  have h2 : w.length * (n + 1) ≤ m * (n + 1) := Nat.mul_le_mul_right _ hl
  simp only [wD, wt]
  omega
theorem wts_worlds (c : Nat) : ∀ l : List W, (∀ w ∈ l, wt (wD w) ≤ c) → wts (wsW l) ≤ l.length * c
  | [], _ => by simp [wsW, wts]
  | w :: l, h => by
    have ih := wts_worlds c l fun u hu => h u (List.mem_cons_of_mem _ hu)
    have h1 := h w List.mem_cons_self
    have : wts (wsW (w :: l)) = wt (wD w) + wts (wsW l) := rfl
    rw [this, List.length_cons, Nat.add_mul]
    omega
theorem goodW_snoc (ss : List Sen) (s : Sen) (w : W) : goodW (ss ++ [s]) w = (goodW ss w && holdsW w s) := by simp [goodW]
end G

set_option linter.all false
set_option maxRecDepth 100000
set_option Elab.async false
set_option autoImplicit false
set_option maxHeartbeats 0
namespace LK
open PySem G
open Y hiding tD
theorem e0 : SizeSp m_0 := size_sp T_0
theorem e1 : HoldsSp m_1 := holds_sp (T := T_1) (by rw [T_1_0]; exact e0)
theorem e2 : BrokenSp m_2 := broken_sp (T := T_2) (by rw [T_2_1]; exact e1)
theorem e3 : AllThingsSp m_3 := allthings_sp T_3
theorem e4 : SortedWorldsSp m_4 := sortedworlds_sp T_4
theorem e5 : AllWorldsSp m_5 := allworlds_sp (T := T_5) (by rw [T_5_3]; exact e3) (by rw [T_5_4]; exact e4) (by rw [T_5_2]; exact e2)
theorem e6 : CountSp m_6 := count_sp (T := T_6) (by rw [T_6_5]; exact e5)
theorem e8 (l l2 : Nat) (ne : l2 ≠ l) : TakeSp (jarR l l2 ne) m_8 := take_sp T_8 l l2 ne 48271 2909 2147483587 67 (by decide) (by decide) (by decide) (by decide)
theorem e9 : SameSp m_9 := same_sp T_9
theorem e10 {R : Jr} (tk : TakeSp R m_8) : SenSp R m_10 := sentence_sp (T := T_10) (by rw [T_10_8]; exact tk)
theorem e11 {R : Jr} (tk : TakeSp R m_8) : BookSp R m_11 := book_sp (T := T_11) (by rw [T_11_10]; exact e10 tk)
theorem e12 : SizeSp m_12 := size_sp T_12
theorem e13 : HoldsSp m_13 := lholds_sp (T := T_13) (by rw [T_13_12]; exact e12)
theorem e14 : GoodSp m_14 := good_sp (T := T_14) (by rw [T_14_13]; exact e13)
theorem e15 : LWorldsSp m_15 := lworlds_sp T_15
theorem e16 {R : Jr} (tk : TakeSp R m_8) (n m : Nat) (names : List D) (ss : List Sen) (h : List Node) (hn : names.length = n) (h0 : 1 ≤ n) (h1 : n ≤ 3) (hm : m ≤ 5) (hl : ss.length ≤ 1000) (ok : R.ok h) {Q : RV → List Node → Prop}
    (q : ∀ h', Keep R h h' → Q (.val (.bl true)) h') : Fn m_16 [.ref R.at_, bk names ss, .int m] h Q := by
  subst hn
  have hlim := lim_eq
  obtain ⟨G, eG, pG, fG⟩ := srtW (foundL (thK names.length) m)
  have f7 := found_seven (asc_K _ h0 h1).2.1 m
  have p8 := pow8 hm
  have gl : G.length ≤ 37449 := by rw [pG.length_eq]; omega
  have gmem : ∀ w ∈ G, w.length ≤ 5 ∧ ∀ t ∈ w, t.length ≤ 3 := fun w hw => by
    obtain ⟨a, b⟩ := foundL_ok m w (pG.mem_iff.mp hw)
    exact ⟨by omega, fun t ht => (asc_K _ h0 h1).2.2.1 t (b t ht)⟩
  obtain ⟨E, hE⟩ : ∃ E, E = G.filter (goodW ss) := ⟨_, rfl⟩
  have el : E.length ≤ 37449 := by rw [hE]; have := List.length_filter_le (goodW ss) G; omega
  have emem : ∀ w ∈ E, w.length ≤ 5 ∧ ∀ t ∈ w, t.length ≤ 3 := fun w hw => by rw [hE] at hw; exact gmem w (List.mem_filter.mp hw).1
  have ew : D.srt (wsW (worldsOf names.length m ss)) = wsW E := by rw [hE]; exact fG (goodW ss)
  have ec : (worldsOf names.length m ss).length = E.length := by
    have := congrArg List.length ew
    rw [(srt_perm _).length_eq, wsW_len, wsW_len] at this
    exact this
  have wE : wts (wsW E) ≤ 37449 * 21 := by
    have := wts_worlds 21 E fun w hw => wt_world 3 5 (emem w hw).2 (emem w hw).1
    have := Nat.mul_le_mul_right 21 el
    omega
  have sE := fun h => e9 (.tup [.tup (wsW E), .int E.length]) h ⟨61, by rw [q_fT, q_fC, q_fC, q_f0, q_fT, q_fI, flat_W 57 E]; rfl⟩ (by simp only [wt, wts]; omega)
  simp [m_16, ir16, bk, fn_mkF, semSs, semS, sems, sem, mean, ok_seq, ok_thenN, ok_drop, ok_mRet, ok_mPar, ok_bind', ok_bind, ok_pure, ok_pure', ok_val, ok_tmp, ok_bl, ok_ite, ok_call, ok_lc, ok_lc2, ok_op2, ok_cmp, ok_truth, ok_subO, ok_cutO, ok_revO, ok_negO, ok_intOf, ok_bi, ok_meth, ok_metOk, ok_putO, ok_isi, ok_mVar, ok_toD, ok_stO, ok_rvO, ok_asB, ok_settle, ok_mRng, ok_walkO, ok_enumO, ok_ssetO, ok_put, ok_putT, ok_puts0, ok_putsC, ok_setNode, ok_mDs0, ok_mDsC, ok_mOs0, ok_mOsC, ok_mPart0, ok_mPart1, ok_mIfs0, ok_mIfsC, okM_ok, okM_stuck, okM_exc, okM_ite, Ty.below, atI_nat, atI_0, atI_1, atI_2, atI_3, atI_4, atI_5, atI_6, atI_7, atI_last, q_dII, q_dSS, q_dBB, q_dNN, q_dTT, q_dNI, q_dIN, q_dSI, q_dIS, q_dIT, q_dTI, q_dNT, q_dTN, q_dST, q_dTS, q_ds0, q_dsC, q_dsL, q_dsR, q_fI, q_fB, q_fN, q_fT, q_fS, q_f0, q_fC, q_mVar, q_toDv, q_toDt, q_toDo, q_stOv, q_stOt, q_stOo, q_rvOv, q_rvOt, q_rvOo, q_put, q_addI, q_addT, q_addS, q_subI, q_mulI, q_fdivI, q_modI, q_powI, q_shlI, q_shrI, q_addLtt, q_addLot, q_addLoo, q_neg, q_eq, q_ne, q_eqI, q_eqS, q_eqB, q_eqIB, q_eqBI, q_eqT, q_eqSI, q_eqIS, q_eqIT, q_eqTI, q_eqNI, q_eqIN, q_is, q_isnt, q_isNnon, q_isNint, q_isNbl, q_isNstr, q_isNtup, q_isNref, q_lt, q_gt, q_le, q_leT, q_ge, q_in, q_notin, q_trN, q_trB, q_trI, q_trT, q_trS, q_asB, q_subT, q_subR, q_subO, q_subM, q_nodeO, q_nodeR, q_nodeM, q_cutT, q_cutR, q_revT, q_intOf, q_lstR, q_lstM, q_lstO, q_lenT, q_lenS, q_lenR, q_lenO, q_lenM, q_abs, q_intI, q_intB, q_allM, q_anyM, q_sumM, q_tupT, q_tupM, q_tupO, q_tupR, q_listT, q_listM, q_listR, q_listO, q_isi, q_tyN, q_tyB, q_tyI, q_tyS, q_tyT, q_tyR, q_metOk, q_append, q_pop, q_popI, q_setO, q_setR, q_putO, q_walkT, q_walkM, q_walkR, q_walkO, q_setN, q_setM, q_setV, q_setlO, q_rng1, q_rng2, q_settV, q_settT, q_settO, q_opdV, q_opdN, q_addO, q_appL, q_popL, q_sortT, q_sortM, q_sortR, q_sortO, q_sset, q_max, q_min, q_mulT, q_cutO, q_cutM, q_enT, q_enM, q_inIT, q_inTT, q_inIR, q_eqMM, q_extend, q_insert, q_extL, q_insL, q_allO, q_allR, q_anyO, q_anyR, q_sumO, q_sumR, T_16_15]
  refine e15 names.length m h h0 h1 hm fun x => ?_
  rw [eG]
  simp [fn_mkF, semSs, semS, sems, sem, mean, ok_seq, ok_thenN, ok_drop, ok_mRet, ok_mPar, ok_bind', ok_bind, ok_pure, ok_pure', ok_val, ok_tmp, ok_bl, ok_ite, ok_call, ok_lc, ok_lc2, ok_op2, ok_cmp, ok_truth, ok_subO, ok_cutO, ok_revO, ok_negO, ok_intOf, ok_bi, ok_meth, ok_metOk, ok_putO, ok_isi, ok_mVar, ok_toD, ok_stO, ok_rvO, ok_asB, ok_settle, ok_mRng, ok_walkO, ok_enumO, ok_ssetO, ok_put, ok_putT, ok_puts0, ok_putsC, ok_setNode, ok_mDs0, ok_mDsC, ok_mOs0, ok_mOsC, ok_mPart0, ok_mPart1, ok_mIfs0, ok_mIfsC, okM_ok, okM_stuck, okM_exc, okM_ite, Ty.below, atI_nat, atI_0, atI_1, atI_2, atI_3, atI_4, atI_5, atI_6, atI_7, atI_last, q_dII, q_dSS, q_dBB, q_dNN, q_dTT, q_dNI, q_dIN, q_dSI, q_dIS, q_dIT, q_dTI, q_dNT, q_dTN, q_dST, q_dTS, q_ds0, q_dsC, q_dsL, q_dsR, q_fI, q_fB, q_fN, q_fT, q_fS, q_f0, q_fC, q_mVar, q_toDv, q_toDt, q_toDo, q_stOv, q_stOt, q_stOo, q_rvOv, q_rvOt, q_rvOo, q_put, q_addI, q_addT, q_addS, q_subI, q_mulI, q_fdivI, q_modI, q_powI, q_shlI, q_shrI, q_addLtt, q_addLot, q_addLoo, q_neg, q_eq, q_ne, q_eqI, q_eqS, q_eqB, q_eqIB, q_eqBI, q_eqT, q_eqSI, q_eqIS, q_eqIT, q_eqTI, q_eqNI, q_eqIN, q_is, q_isnt, q_isNnon, q_isNint, q_isNbl, q_isNstr, q_isNtup, q_isNref, q_lt, q_gt, q_le, q_leT, q_ge, q_in, q_notin, q_trN, q_trB, q_trI, q_trT, q_trS, q_asB, q_subT, q_subR, q_subO, q_subM, q_nodeO, q_nodeR, q_nodeM, q_cutT, q_cutR, q_revT, q_intOf, q_lstR, q_lstM, q_lstO, q_lenT, q_lenS, q_lenR, q_lenO, q_lenM, q_abs, q_intI, q_intB, q_allM, q_anyM, q_sumM, q_tupT, q_tupM, q_tupO, q_tupR, q_listT, q_listM, q_listR, q_listO, q_isi, q_tyN, q_tyB, q_tyI, q_tyS, q_tyT, q_tyR, q_metOk, q_append, q_pop, q_popI, q_setO, q_setR, q_putO, q_walkT, q_walkM, q_walkR, q_walkO, q_setN, q_setM, q_setV, q_setlO, q_rng1, q_rng2, q_settV, q_settT, q_settO, q_opdV, q_opdN, q_addO, q_appL, q_popL, q_sortT, q_sortM, q_sortR, q_sortO, q_sset, q_max, q_min, q_mulT, q_cutO, q_cutM, q_enT, q_enM, q_inIT, q_inTT, q_inIR, q_eqMM, q_extend, q_insert, q_extL, q_insL, q_allO, q_allR, q_anyO, q_anyR, q_sumO, q_sumR, wipe]
  refine ok_lc_of G wD (fun w => if goodW ss w = true then some (wD w) else none) (w := ⟨wsW G, some (.tmp (.lst (wsW G)), wsW G)⟩) (own := [4]) (sl := [.val (.ref R.at_), .val (.tup [.tup names, .tup (ss.map Sen.d)]), .val (.int m), .unset, .unset, .unset, .unset]) rfl same_tmp (by omega) (fun w hw => ?_) ?_
  · have g : ∀ h, m_14 [.tup [.tup names, .tup (ss.map Sen.d)], wD w] h = .ret (.val (.bl (goodW ss w))) h := fun h => e14 names ss w (wD w) h (.inl rfl) (by have := (gmem w hw).1; omega) (by omega)
    cases hg : goodW ss w with
    | true => rw [hg] at g; simp [wipe, fn_mkF, semSs, semS, sems, sem, mean, ok_seq, ok_thenN, ok_drop, ok_mRet, ok_mPar, ok_bind', ok_bind, ok_pure, ok_pure', ok_val, ok_tmp, ok_bl, ok_ite, ok_call, ok_lc, ok_lc2, ok_op2, ok_cmp, ok_truth, ok_subO, ok_cutO, ok_revO, ok_negO, ok_intOf, ok_bi, ok_meth, ok_metOk, ok_putO, ok_isi, ok_mVar, ok_toD, ok_stO, ok_rvO, ok_asB, ok_settle, ok_mRng, ok_walkO, ok_enumO, ok_ssetO, ok_put, ok_putT, ok_puts0, ok_putsC, ok_setNode, ok_mDs0, ok_mDsC, ok_mOs0, ok_mOsC, ok_mPart0, ok_mPart1, ok_mIfs0, ok_mIfsC, okM_ok, okM_stuck, okM_exc, okM_ite, Ty.below, atI_nat, atI_0, atI_1, atI_2, atI_3, atI_4, atI_5, atI_6, atI_7, atI_last, q_dII, q_dSS, q_dBB, q_dNN, q_dTT, q_dNI, q_dIN, q_dSI, q_dIS, q_dIT, q_dTI, q_dNT, q_dTN, q_dST, q_dTS, q_ds0, q_dsC, q_dsL, q_dsR, q_fI, q_fB, q_fN, q_fT, q_fS, q_f0, q_fC, q_mVar, q_toDv, q_toDt, q_toDo, q_stOv, q_stOt, q_stOo, q_rvOv, q_rvOt, q_rvOo, q_put, q_addI, q_addT, q_addS, q_subI, q_mulI, q_fdivI, q_modI, q_powI, q_shlI, q_shrI, q_addLtt, q_addLot, q_addLoo, q_neg, q_eq, q_ne, q_eqI, q_eqS, q_eqB, q_eqIB, q_eqBI, q_eqT, q_eqSI, q_eqIS, q_eqIT, q_eqTI, q_eqNI, q_eqIN, q_is, q_isnt, q_isNnon, q_isNint, q_isNbl, q_isNstr, q_isNtup, q_isNref, q_lt, q_gt, q_le, q_leT, q_ge, q_in, q_notin, q_trN, q_trB, q_trI, q_trT, q_trS, q_asB, q_subT, q_subR, q_subO, q_subM, q_nodeO, q_nodeR, q_nodeM, q_cutT, q_cutR, q_revT, q_intOf, q_lstR, q_lstM, q_lstO, q_lenT, q_lenS, q_lenR, q_lenO, q_lenM, q_abs, q_intI, q_intB, q_allM, q_anyM, q_sumM, q_tupT, q_tupM, q_tupO, q_tupR, q_listT, q_listM, q_listR, q_listO, q_isi, q_tyN, q_tyB, q_tyI, q_tyS, q_tyT, q_tyR, q_metOk, q_append, q_pop, q_popI, q_setO, q_setR, q_putO, q_walkT, q_walkM, q_walkR, q_walkO, q_setN, q_setM, q_setV, q_setlO, q_rng1, q_rng2, q_settV, q_settT, q_settO, q_opdV, q_opdN, q_addO, q_appL, q_popL, q_sortT, q_sortM, q_sortR, q_sortO, q_sset, q_max, q_min, q_mulT, q_cutO, q_cutM, q_enT, q_enM, q_inIT, q_inTT, q_inIR, q_eqMM, q_extend, q_insert, q_extL, q_insL, q_allO, q_allR, q_anyO, q_anyR, q_sumO, q_sumR, T_16_14, fn_ret (g _)]
    | false => rw [hg] at g; simp [wipe, fn_mkF, semSs, semS, sems, sem, mean, ok_seq, ok_thenN, ok_drop, ok_mRet, ok_mPar, ok_bind', ok_bind, ok_pure, ok_pure', ok_val, ok_tmp, ok_bl, ok_ite, ok_call, ok_lc, ok_lc2, ok_op2, ok_cmp, ok_truth, ok_subO, ok_cutO, ok_revO, ok_negO, ok_intOf, ok_bi, ok_meth, ok_metOk, ok_putO, ok_isi, ok_mVar, ok_toD, ok_stO, ok_rvO, ok_asB, ok_settle, ok_mRng, ok_walkO, ok_enumO, ok_ssetO, ok_put, ok_putT, ok_puts0, ok_putsC, ok_setNode, ok_mDs0, ok_mDsC, ok_mOs0, ok_mOsC, ok_mPart0, ok_mPart1, ok_mIfs0, ok_mIfsC, okM_ok, okM_stuck, okM_exc, okM_ite, Ty.below, atI_nat, atI_0, atI_1, atI_2, atI_3, atI_4, atI_5, atI_6, atI_7, atI_last, q_dII, q_dSS, q_dBB, q_dNN, q_dTT, q_dNI, q_dIN, q_dSI, q_dIS, q_dIT, q_dTI, q_dNT, q_dTN, q_dST, q_dTS, q_ds0, q_dsC, q_dsL, q_dsR, q_fI, q_fB, q_fN, q_fT, q_fS, q_f0, q_fC, q_mVar, q_toDv, q_toDt, q_toDo, q_stOv, q_stOt, q_stOo, q_rvOv, q_rvOt, q_rvOo, q_put, q_addI, q_addT, q_addS, q_subI, q_mulI, q_fdivI, q_modI, q_powI, q_shlI, q_shrI, q_addLtt, q_addLot, q_addLoo, q_neg, q_eq, q_ne, q_eqI, q_eqS, q_eqB, q_eqIB, q_eqBI, q_eqT, q_eqSI, q_eqIS, q_eqIT, q_eqTI, q_eqNI, q_eqIN, q_is, q_isnt, q_isNnon, q_isNint, q_isNbl, q_isNstr, q_isNtup, q_isNref, q_lt, q_gt, q_le, q_leT, q_ge, q_in, q_notin, q_trN, q_trB, q_trI, q_trT, q_trS, q_asB, q_subT, q_subR, q_subO, q_subM, q_nodeO, q_nodeR, q_nodeM, q_cutT, q_cutR, q_revT, q_intOf, q_lstR, q_lstM, q_lstO, q_lenT, q_lenS, q_lenR, q_lenO, q_lenM, q_abs, q_intI, q_intB, q_allM, q_anyM, q_sumM, q_tupT, q_tupM, q_tupO, q_tupR, q_listT, q_listM, q_listR, q_listO, q_isi, q_tyN, q_tyB, q_tyI, q_tyS, q_tyT, q_tyR, q_metOk, q_append, q_pop, q_popI, q_setO, q_setR, q_putO, q_walkT, q_walkM, q_walkR, q_walkO, q_setN, q_setM, q_setV, q_setlO, q_rng1, q_rng2, q_settV, q_settT, q_settO, q_opdV, q_opdN, q_addO, q_appL, q_popL, q_sortT, q_sortM, q_sortR, q_sortO, q_sset, q_max, q_min, q_mulT, q_cutO, q_cutM, q_enT, q_enM, q_inIT, q_inTT, q_inIR, q_eqMM, q_extend, q_insert, q_extL, q_insL, q_allO, q_allR, q_anyO, q_anyR, q_sumO, q_sumR, T_16_14, fn_ret (g _)]
  · rw [filterMap_if, ← hE]
    have e2 : E.map wD = wsW E := rfl
    rw [e2]
    simp [wipe, unwipe, fn_mkF, semSs, semS, sems, sem, mean, ok_seq, ok_thenN, ok_drop, ok_mRet, ok_mPar, ok_bind', ok_bind, ok_pure, ok_pure', ok_val, ok_tmp, ok_bl, ok_ite, ok_call, ok_lc, ok_lc2, ok_op2, ok_cmp, ok_truth, ok_subO, ok_cutO, ok_revO, ok_negO, ok_intOf, ok_bi, ok_meth, ok_metOk, ok_putO, ok_isi, ok_mVar, ok_toD, ok_stO, ok_rvO, ok_asB, ok_settle, ok_mRng, ok_walkO, ok_enumO, ok_ssetO, ok_put, ok_putT, ok_puts0, ok_putsC, ok_setNode, ok_mDs0, ok_mDsC, ok_mOs0, ok_mOsC, ok_mPart0, ok_mPart1, ok_mIfs0, ok_mIfsC, okM_ok, okM_stuck, okM_exc, okM_ite, Ty.below, atI_nat, atI_0, atI_1, atI_2, atI_3, atI_4, atI_5, atI_6, atI_7, atI_last, q_dII, q_dSS, q_dBB, q_dNN, q_dTT, q_dNI, q_dIN, q_dSI, q_dIS, q_dIT, q_dTI, q_dNT, q_dTN, q_dST, q_dTS, q_ds0, q_dsC, q_dsL, q_dsR, q_fI, q_fB, q_fN, q_fT, q_fS, q_f0, q_fC, q_mVar, q_toDv, q_toDt, q_toDo, q_stOv, q_stOt, q_stOo, q_rvOv, q_rvOt, q_rvOo, q_put, q_addI, q_addT, q_addS, q_subI, q_mulI, q_fdivI, q_modI, q_powI, q_shlI, q_shrI, q_addLtt, q_addLot, q_addLoo, q_neg, q_eq, q_ne, q_eqI, q_eqS, q_eqB, q_eqIB, q_eqBI, q_eqT, q_eqSI, q_eqIS, q_eqIT, q_eqTI, q_eqNI, q_eqIN, q_is, q_isnt, q_isNnon, q_isNint, q_isNbl, q_isNstr, q_isNtup, q_isNref, q_lt, q_gt, q_le, q_leT, q_ge, q_in, q_notin, q_trN, q_trB, q_trI, q_trT, q_trS, q_asB, q_subT, q_subR, q_subO, q_subM, q_nodeO, q_nodeR, q_nodeM, q_cutT, q_cutR, q_revT, q_intOf, q_lstR, q_lstM, q_lstO, q_lenT, q_lenS, q_lenR, q_lenO, q_lenM, q_abs, q_intI, q_intB, q_allM, q_anyM, q_sumM, q_tupT, q_tupM, q_tupO, q_tupR, q_listT, q_listM, q_listR, q_listO, q_isi, q_tyN, q_tyB, q_tyI, q_tyS, q_tyT, q_tyR, q_metOk, q_append, q_pop, q_popI, q_setO, q_setR, q_putO, q_walkT, q_walkM, q_walkR, q_walkO, q_setN, q_setM, q_setV, q_setlO, q_rng1, q_rng2, q_settV, q_settT, q_settO, q_opdV, q_opdN, q_addO, q_appL, q_popL, q_sortT, q_sortM, q_sortR, q_sortO, q_sset, q_max, q_min, q_mulT, q_cutO, q_cutM, q_enT, q_enM, q_inIT, q_inTT, q_inIR, q_eqMM, q_extend, q_insert, q_extL, q_insL, q_allO, q_allR, q_anyO, q_anyR, q_sumO, q_sumR, T_16_5]
    refine e5 names.length m names ss (h ++ x) rfl h0 h1 hm (by omega) fun x2 => ?_
    rw [ew]
    simp [fn_mkF, semSs, semS, sems, sem, mean, ok_seq, ok_thenN, ok_drop, ok_mRet, ok_mPar, ok_bind', ok_bind, ok_pure, ok_pure', ok_val, ok_tmp, ok_bl, ok_ite, ok_call, ok_lc, ok_lc2, ok_op2, ok_cmp, ok_truth, ok_subO, ok_cutO, ok_revO, ok_negO, ok_intOf, ok_bi, ok_meth, ok_metOk, ok_putO, ok_isi, ok_mVar, ok_toD, ok_stO, ok_rvO, ok_asB, ok_settle, ok_mRng, ok_walkO, ok_enumO, ok_ssetO, ok_put, ok_putT, ok_puts0, ok_putsC, ok_setNode, ok_mDs0, ok_mDsC, ok_mOs0, ok_mOsC, ok_mPart0, ok_mPart1, ok_mIfs0, ok_mIfsC, okM_ok, okM_stuck, okM_exc, okM_ite, Ty.below, atI_nat, atI_0, atI_1, atI_2, atI_3, atI_4, atI_5, atI_6, atI_7, atI_last, q_dII, q_dSS, q_dBB, q_dNN, q_dTT, q_dNI, q_dIN, q_dSI, q_dIS, q_dIT, q_dTI, q_dNT, q_dTN, q_dST, q_dTS, q_ds0, q_dsC, q_dsL, q_dsR, q_fI, q_fB, q_fN, q_fT, q_fS, q_f0, q_fC, q_mVar, q_toDv, q_toDt, q_toDo, q_stOv, q_stOt, q_stOo, q_rvOv, q_rvOt, q_rvOo, q_put, q_addI, q_addT, q_addS, q_subI, q_mulI, q_fdivI, q_modI, q_powI, q_shlI, q_shrI, q_addLtt, q_addLot, q_addLoo, q_neg, q_eq, q_ne, q_eqI, q_eqS, q_eqB, q_eqIB, q_eqBI, q_eqT, q_eqSI, q_eqIS, q_eqIT, q_eqTI, q_eqNI, q_eqIN, q_is, q_isnt, q_isNnon, q_isNint, q_isNbl, q_isNstr, q_isNtup, q_isNref, q_lt, q_gt, q_le, q_leT, q_ge, q_in, q_notin, q_trN, q_trB, q_trI, q_trT, q_trS, q_asB, q_subT, q_subR, q_subO, q_subM, q_nodeO, q_nodeR, q_nodeM, q_cutT, q_cutR, q_revT, q_intOf, q_lstR, q_lstM, q_lstO, q_lenT, q_lenS, q_lenR, q_lenO, q_lenM, q_abs, q_intI, q_intB, q_allM, q_anyM, q_sumM, q_tupT, q_tupM, q_tupO, q_tupR, q_listT, q_listM, q_listR, q_listO, q_isi, q_tyN, q_tyB, q_tyI, q_tyS, q_tyT, q_tyR, q_metOk, q_append, q_pop, q_popI, q_setO, q_setR, q_putO, q_walkT, q_walkM, q_walkR, q_walkO, q_setN, q_setM, q_setV, q_setlO, q_rng1, q_rng2, q_settV, q_settT, q_settO, q_opdV, q_opdN, q_addO, q_appL, q_popL, q_sortT, q_sortM, q_sortR, q_sortO, q_sset, q_max, q_min, q_mulT, q_cutO, q_cutM, q_enT, q_enM, q_inIT, q_inTT, q_inIR, q_eqMM, q_extend, q_insert, q_extL, q_insL, q_allO, q_allR, q_anyO, q_anyR, q_sumO, q_sumR, T_16_6]
    refine e6 names.length m names ss _ rfl h0 h1 hm (by omega) fun x3 => ?_
    rw [ec]
    have wl := wsW_len E
    have k0 : Keep R h (h ++ (x ++ (x2 ++ x3))) := (Keep.refl ok).app _
    simp [fn_mkF, semSs, semS, sems, sem, mean, ok_seq, ok_thenN, ok_drop, ok_mRet, ok_mPar, ok_bind', ok_bind, ok_pure, ok_pure', ok_val, ok_tmp, ok_bl, ok_ite, ok_call, ok_lc, ok_lc2, ok_op2, ok_cmp, ok_truth, ok_subO, ok_cutO, ok_revO, ok_negO, ok_intOf, ok_bi, ok_meth, ok_metOk, ok_putO, ok_isi, ok_mVar, ok_toD, ok_stO, ok_rvO, ok_asB, ok_settle, ok_mRng, ok_walkO, ok_enumO, ok_ssetO, ok_put, ok_putT, ok_puts0, ok_putsC, ok_setNode, ok_mDs0, ok_mDsC, ok_mOs0, ok_mOsC, ok_mPart0, ok_mPart1, ok_mIfs0, ok_mIfsC, okM_ok, okM_stuck, okM_exc, okM_ite, Ty.below, atI_nat, atI_0, atI_1, atI_2, atI_3, atI_4, atI_5, atI_6, atI_7, atI_last, q_dII, q_dSS, q_dBB, q_dNN, q_dTT, q_dNI, q_dIN, q_dSI, q_dIS, q_dIT, q_dTI, q_dNT, q_dTN, q_dST, q_dTS, q_ds0, q_dsC, q_dsL, q_dsR, q_fI, q_fB, q_fN, q_fT, q_fS, q_f0, q_fC, q_mVar, q_toDv, q_toDt, q_toDo, q_stOv, q_stOt, q_stOo, q_rvOv, q_rvOt, q_rvOo, q_put, q_addI, q_addT, q_addS, q_subI, q_mulI, q_fdivI, q_modI, q_powI, q_shlI, q_shrI, q_addLtt, q_addLot, q_addLoo, q_neg, q_eq, q_ne, q_eqI, q_eqS, q_eqB, q_eqIB, q_eqBI, q_eqT, q_eqSI, q_eqIS, q_eqIT, q_eqTI, q_eqNI, q_eqIN, q_is, q_isnt, q_isNnon, q_isNint, q_isNbl, q_isNstr, q_isNtup, q_isNref, q_lt, q_gt, q_le, q_leT, q_ge, q_in, q_notin, q_trN, q_trB, q_trI, q_trT, q_trS, q_asB, q_subT, q_subR, q_subO, q_subM, q_nodeO, q_nodeR, q_nodeM, q_cutT, q_cutR, q_revT, q_intOf, q_lstR, q_lstM, q_lstO, q_lenT, q_lenS, q_lenR, q_lenO, q_lenM, q_abs, q_intI, q_intB, q_allM, q_anyM, q_sumM, q_tupT, q_tupM, q_tupO, q_tupR, q_listT, q_listM, q_listR, q_listO, q_isi, q_tyN, q_tyB, q_tyI, q_tyS, q_tyT, q_tyR, q_metOk, q_append, q_pop, q_popI, q_setO, q_setR, q_putO, q_walkT, q_walkM, q_walkR, q_walkO, q_setN, q_setM, q_setV, q_setlO, q_rng1, q_rng2, q_settV, q_settT, q_settO, q_opdV, q_opdN, q_addO, q_appL, q_popL, q_sortT, q_sortM, q_sortR, q_sortO, q_sset, q_max, q_min, q_mulT, q_cutO, q_cutM, q_enT, q_enM, q_inIT, q_inTT, q_inIR, q_eqMM, q_extend, q_insert, q_extL, q_insL, q_allO, q_allR, q_anyO, q_anyR, q_sumO, q_sumR, T_16_9, wl, fn_ret (sE _), T_16_10]
    refine e10 tk k0.ok (by omega) (by omega) (by omega) (by omega) fun s h4 sok k4 z4 => ?_
    simp [fn_mkF, semSs, semS, sems, sem, mean, ok_seq, ok_thenN, ok_drop, ok_mRet, ok_mPar, ok_bind', ok_bind, ok_pure, ok_pure', ok_val, ok_tmp, ok_bl, ok_ite, ok_call, ok_lc, ok_lc2, ok_op2, ok_cmp, ok_truth, ok_subO, ok_cutO, ok_revO, ok_negO, ok_intOf, ok_bi, ok_meth, ok_metOk, ok_putO, ok_isi, ok_mVar, ok_toD, ok_stO, ok_rvO, ok_asB, ok_settle, ok_mRng, ok_walkO, ok_enumO, ok_ssetO, ok_put, ok_putT, ok_puts0, ok_putsC, ok_setNode, ok_mDs0, ok_mDsC, ok_mOs0, ok_mOsC, ok_mPart0, ok_mPart1, ok_mIfs0, ok_mIfsC, okM_ok, okM_stuck, okM_exc, okM_ite, Ty.below, atI_nat, atI_0, atI_1, atI_2, atI_3, atI_4, atI_5, atI_6, atI_7, atI_last, q_dII, q_dSS, q_dBB, q_dNN, q_dTT, q_dNI, q_dIN, q_dSI, q_dIS, q_dIT, q_dTI, q_dNT, q_dTN, q_dST, q_dTS, q_ds0, q_dsC, q_dsL, q_dsR, q_fI, q_fB, q_fN, q_fT, q_fS, q_f0, q_fC, q_mVar, q_toDv, q_toDt, q_toDo, q_stOv, q_stOt, q_stOo, q_rvOv, q_rvOt, q_rvOo, q_put, q_addI, q_addT, q_addS, q_subI, q_mulI, q_fdivI, q_modI, q_powI, q_shlI, q_shrI, q_addLtt, q_addLot, q_addLoo, q_neg, q_eq, q_ne, q_eqI, q_eqS, q_eqB, q_eqIB, q_eqBI, q_eqT, q_eqSI, q_eqIS, q_eqIT, q_eqTI, q_eqNI, q_eqIN, q_is, q_isnt, q_isNnon, q_isNint, q_isNbl, q_isNstr, q_isNtup, q_isNref, q_lt, q_gt, q_le, q_leT, q_ge, q_in, q_notin, q_trN, q_trB, q_trI, q_trT, q_trS, q_asB, q_subT, q_subR, q_subO, q_subM, q_nodeO, q_nodeR, q_nodeM, q_cutT, q_cutR, q_revT, q_intOf, q_lstR, q_lstM, q_lstO, q_lenT, q_lenS, q_lenR, q_lenO, q_lenM, q_abs, q_intI, q_intB, q_allM, q_anyM, q_sumM, q_tupT, q_tupM, q_tupO, q_tupR, q_listT, q_listM, q_listR, q_listO, q_isi, q_tyN, q_tyB, q_tyI, q_tyS, q_tyT, q_tyR, q_metOk, q_append, q_pop, q_popI, q_setO, q_setR, q_putO, q_walkT, q_walkM, q_walkR, q_walkO, q_setN, q_setM, q_setV, q_setlO, q_rng1, q_rng2, q_settV, q_settT, q_settO, q_opdV, q_opdN, q_addO, q_appL, q_popL, q_sortT, q_sortM, q_sortR, q_sortO, q_sset, q_max, q_min, q_mulT, q_cutO, q_cutM, q_enT, q_enM, q_inIT, q_inTT, q_inIR, q_eqMM, q_extend, q_insert, q_extL, q_insL, q_allO, q_allR, q_anyO, q_anyR, q_sumO, q_sumR, wipe]
    refine ok_lc_of E wD (fun w => if holdsW w s = true then some (wD w) else none) (w := ⟨wsW E, some (.own 3, wsW E)⟩) (own := [4]) (sl := [.val (.ref R.at_), .val (.tup [.tup names, .tup (ss.map Sen.d)]), .val (.int m), .own (.lst (wsW E)), .unset, .val s.d, .unset]) rfl (lst_same rfl) (by omega) (fun w hw => ?_) ?_
    · have g : ∀ h, m_13 [wD w, s.d] h = .ret (.val (.bl (holdsW w s))) h := fun h => e13 w s (wD w) h (.inl rfl) (by have := (emem w hw).1; omega)
      cases hg : holdsW w s with
      | true => rw [hg] at g; simp [wipe, fn_mkF, semSs, semS, sems, sem, mean, ok_seq, ok_thenN, ok_drop, ok_mRet, ok_mPar, ok_bind', ok_bind, ok_pure, ok_pure', ok_val, ok_tmp, ok_bl, ok_ite, ok_call, ok_lc, ok_lc2, ok_op2, ok_cmp, ok_truth, ok_subO, ok_cutO, ok_revO, ok_negO, ok_intOf, ok_bi, ok_meth, ok_metOk, ok_putO, ok_isi, ok_mVar, ok_toD, ok_stO, ok_rvO, ok_asB, ok_settle, ok_mRng, ok_walkO, ok_enumO, ok_ssetO, ok_put, ok_putT, ok_puts0, ok_putsC, ok_setNode, ok_mDs0, ok_mDsC, ok_mOs0, ok_mOsC, ok_mPart0, ok_mPart1, ok_mIfs0, ok_mIfsC, okM_ok, okM_stuck, okM_exc, okM_ite, Ty.below, atI_nat, atI_0, atI_1, atI_2, atI_3, atI_4, atI_5, atI_6, atI_7, atI_last, q_dII, q_dSS, q_dBB, q_dNN, q_dTT, q_dNI, q_dIN, q_dSI, q_dIS, q_dIT, q_dTI, q_dNT, q_dTN, q_dST, q_dTS, q_ds0, q_dsC, q_dsL, q_dsR, q_fI, q_fB, q_fN, q_fT, q_fS, q_f0, q_fC, q_mVar, q_toDv, q_toDt, q_toDo, q_stOv, q_stOt, q_stOo, q_rvOv, q_rvOt, q_rvOo, q_put, q_addI, q_addT, q_addS, q_subI, q_mulI, q_fdivI, q_modI, q_powI, q_shlI, q_shrI, q_addLtt, q_addLot, q_addLoo, q_neg, q_eq, q_ne, q_eqI, q_eqS, q_eqB, q_eqIB, q_eqBI, q_eqT, q_eqSI, q_eqIS, q_eqIT, q_eqTI, q_eqNI, q_eqIN, q_is, q_isnt, q_isNnon, q_isNint, q_isNbl, q_isNstr, q_isNtup, q_isNref, q_lt, q_gt, q_le, q_leT, q_ge, q_in, q_notin, q_trN, q_trB, q_trI, q_trT, q_trS, q_asB, q_subT, q_subR, q_subO, q_subM, q_nodeO, q_nodeR, q_nodeM, q_cutT, q_cutR, q_revT, q_intOf, q_lstR, q_lstM, q_lstO, q_lenT, q_lenS, q_lenR, q_lenO, q_lenM, q_abs, q_intI, q_intB, q_allM, q_anyM, q_sumM, q_tupT, q_tupM, q_tupO, q_tupR, q_listT, q_listM, q_listR, q_listO, q_isi, q_tyN, q_tyB, q_tyI, q_tyS, q_tyT, q_tyR, q_metOk, q_append, q_pop, q_popI, q_setO, q_setR, q_putO, q_walkT, q_walkM, q_walkR, q_walkO, q_setN, q_setM, q_setV, q_setlO, q_rng1, q_rng2, q_settV, q_settT, q_settO, q_opdV, q_opdN, q_addO, q_appL, q_popL, q_sortT, q_sortM, q_sortR, q_sortO, q_sset, q_max, q_min, q_mulT, q_cutO, q_cutM, q_enT, q_enM, q_inIT, q_inTT, q_inIR, q_eqMM, q_extend, q_insert, q_extL, q_insL, q_allO, q_allR, q_anyO, q_anyR, q_sumO, q_sumR, T_16_13, fn_ret (g _)]
      | false => rw [hg] at g; simp [wipe, fn_mkF, semSs, semS, sems, sem, mean, ok_seq, ok_thenN, ok_drop, ok_mRet, ok_mPar, ok_bind', ok_bind, ok_pure, ok_pure', ok_val, ok_tmp, ok_bl, ok_ite, ok_call, ok_lc, ok_lc2, ok_op2, ok_cmp, ok_truth, ok_subO, ok_cutO, ok_revO, ok_negO, ok_intOf, ok_bi, ok_meth, ok_metOk, ok_putO, ok_isi, ok_mVar, ok_toD, ok_stO, ok_rvO, ok_asB, ok_settle, ok_mRng, ok_walkO, ok_enumO, ok_ssetO, ok_put, ok_putT, ok_puts0, ok_putsC, ok_setNode, ok_mDs0, ok_mDsC, ok_mOs0, ok_mOsC, ok_mPart0, ok_mPart1, ok_mIfs0, ok_mIfsC, okM_ok, okM_stuck, okM_exc, okM_ite, Ty.below, atI_nat, atI_0, atI_1, atI_2, atI_3, atI_4, atI_5, atI_6, atI_7, atI_last, q_dII, q_dSS, q_dBB, q_dNN, q_dTT, q_dNI, q_dIN, q_dSI, q_dIS, q_dIT, q_dTI, q_dNT, q_dTN, q_dST, q_dTS, q_ds0, q_dsC, q_dsL, q_dsR, q_fI, q_fB, q_fN, q_fT, q_fS, q_f0, q_fC, q_mVar, q_toDv, q_toDt, q_toDo, q_stOv, q_stOt, q_stOo, q_rvOv, q_rvOt, q_rvOo, q_put, q_addI, q_addT, q_addS, q_subI, q_mulI, q_fdivI, q_modI, q_powI, q_shlI, q_shrI, q_addLtt, q_addLot, q_addLoo, q_neg, q_eq, q_ne, q_eqI, q_eqS, q_eqB, q_eqIB, q_eqBI, q_eqT, q_eqSI, q_eqIS, q_eqIT, q_eqTI, q_eqNI, q_eqIN, q_is, q_isnt, q_isNnon, q_isNint, q_isNbl, q_isNstr, q_isNtup, q_isNref, q_lt, q_gt, q_le, q_leT, q_ge, q_in, q_notin, q_trN, q_trB, q_trI, q_trT, q_trS, q_asB, q_subT, q_subR, q_subO, q_subM, q_nodeO, q_nodeR, q_nodeM, q_cutT, q_cutR, q_revT, q_intOf, q_lstR, q_lstM, q_lstO, q_lenT, q_lenS, q_lenR, q_lenO, q_lenM, q_abs, q_intI, q_intB, q_allM, q_anyM, q_sumM, q_tupT, q_tupM, q_tupO, q_tupR, q_listT, q_listM, q_listR, q_listO, q_isi, q_tyN, q_tyB, q_tyI, q_tyS, q_tyT, q_tyR, q_metOk, q_append, q_pop, q_popI, q_setO, q_setR, q_putO, q_walkT, q_walkM, q_walkR, q_walkO, q_setN, q_setM, q_setV, q_setlO, q_rng1, q_rng2, q_settV, q_settT, q_settO, q_opdV, q_opdN, q_addO, q_appL, q_popL, q_sortT, q_sortM, q_sortR, q_sortO, q_sset, q_max, q_min, q_mulT, q_cutO, q_cutM, q_enT, q_enM, q_inIT, q_inTT, q_inIR, q_eqMM, q_extend, q_insert, q_extL, q_insL, q_allO, q_allR, q_anyO, q_anyR, q_sumO, q_sumR, T_16_13, fn_ret (g _)]
    · rw [filterMap_if]
      have l8 : ss.length + 1 ≤ lim := by omega
      have hx := fun {Q} => e6 names.length m names (ss ++ [s]) h4 rfl h0 h1 hm (by simp; omega) (Q := Q)
      simp only [bk, List.map_append, List.map_cons, List.map_nil] at hx
      simp [wipe, unwipe, fn_mkF, semSs, semS, sems, sem, mean, ok_seq, ok_thenN, ok_drop, ok_mRet, ok_mPar, ok_bind', ok_bind, ok_pure, ok_pure', ok_val, ok_tmp, ok_bl, ok_ite, ok_call, ok_lc, ok_lc2, ok_op2, ok_cmp, ok_truth, ok_subO, ok_cutO, ok_revO, ok_negO, ok_intOf, ok_bi, ok_meth, ok_metOk, ok_putO, ok_isi, ok_mVar, ok_toD, ok_stO, ok_rvO, ok_asB, ok_settle, ok_mRng, ok_walkO, ok_enumO, ok_ssetO, ok_put, ok_putT, ok_puts0, ok_putsC, ok_setNode, ok_mDs0, ok_mDsC, ok_mOs0, ok_mOsC, ok_mPart0, ok_mPart1, ok_mIfs0, ok_mIfsC, okM_ok, okM_stuck, okM_exc, okM_ite, Ty.below, atI_nat, atI_0, atI_1, atI_2, atI_3, atI_4, atI_5, atI_6, atI_7, atI_last, q_dII, q_dSS, q_dBB, q_dNN, q_dTT, q_dNI, q_dIN, q_dSI, q_dIS, q_dIT, q_dTI, q_dNT, q_dTN, q_dST, q_dTS, q_ds0, q_dsC, q_dsL, q_dsR, q_fI, q_fB, q_fN, q_fT, q_fS, q_f0, q_fC, q_mVar, q_toDv, q_toDt, q_toDo, q_stOv, q_stOt, q_stOo, q_rvOv, q_rvOt, q_rvOo, q_put, q_addI, q_addT, q_addS, q_subI, q_mulI, q_fdivI, q_modI, q_powI, q_shlI, q_shrI, q_addLtt, q_addLot, q_addLoo, q_neg, q_eq, q_ne, q_eqI, q_eqS, q_eqB, q_eqIB, q_eqBI, q_eqT, q_eqSI, q_eqIS, q_eqIT, q_eqTI, q_eqNI, q_eqIN, q_is, q_isnt, q_isNnon, q_isNint, q_isNbl, q_isNstr, q_isNtup, q_isNref, q_lt, q_gt, q_le, q_leT, q_ge, q_in, q_notin, q_trN, q_trB, q_trI, q_trT, q_trS, q_asB, q_subT, q_subR, q_subO, q_subM, q_nodeO, q_nodeR, q_nodeM, q_cutT, q_cutR, q_revT, q_intOf, q_lstR, q_lstM, q_lstO, q_lenT, q_lenS, q_lenR, q_lenO, q_lenM, q_abs, q_intI, q_intB, q_allM, q_anyM, q_sumM, q_tupT, q_tupM, q_tupO, q_tupR, q_listT, q_listM, q_listR, q_listO, q_isi, q_tyN, q_tyB, q_tyI, q_tyS, q_tyT, q_tyR, q_metOk, q_append, q_pop, q_popI, q_setO, q_setR, q_putO, q_walkT, q_walkM, q_walkR, q_walkO, q_setN, q_setM, q_setV, q_setlO, q_rng1, q_rng2, q_settV, q_settT, q_settO, q_opdV, q_opdN, q_addO, q_appL, q_popL, q_sortT, q_sortM, q_sortR, q_sortO, q_sset, q_max, q_min, q_mulT, q_cutO, q_cutM, q_enT, q_enM, q_inIT, q_inTT, q_inIR, q_eqMM, q_extend, q_insert, q_extL, q_insL, q_allO, q_allR, q_anyO, q_anyR, q_sumO, q_sumR, T_16_6, l8]
      refine hx fun x5 => ?_
      have ecnt : (worldsOf names.length m (ss ++ [s])).length = (E.filter fun w => holdsW w s).length := by
        have e1 : worldsOf names.length m (ss ++ [s]) = ((foundL (thK names.length) m).filter (goodW ss)).filter fun w => holdsW w s := by
          unfold worldsOf
          rw [List.filter_filter]
          refine congrArg (fun p => List.filter p (foundL (thK names.length) m)) (funext fun w => ?_)
          rw [goodW_snoc, Bool.and_comm]
        rw [e1, hE]
        exact ((pG.symm.filter (goodW ss)).filter _).length_eq
      rw [ecnt]
      have si := fun h => e9 (.int ((E.filter fun w => holdsW w s).length : Nat)) h ⟨0, q_fI⟩ (by simp [wt])
      have kf := ((k0.trans k4).app x5)
      simp [fn_mkF, semSs, semS, sems, sem, mean, ok_seq, ok_thenN, ok_drop, ok_mRet, ok_mPar, ok_bind', ok_bind, ok_pure, ok_pure', ok_val, ok_tmp, ok_bl, ok_ite, ok_call, ok_lc, ok_lc2, ok_op2, ok_cmp, ok_truth, ok_subO, ok_cutO, ok_revO, ok_negO, ok_intOf, ok_bi, ok_meth, ok_metOk, ok_putO, ok_isi, ok_mVar, ok_toD, ok_stO, ok_rvO, ok_asB, ok_settle, ok_mRng, ok_walkO, ok_enumO, ok_ssetO, ok_put, ok_putT, ok_puts0, ok_putsC, ok_setNode, ok_mDs0, ok_mDsC, ok_mOs0, ok_mOsC, ok_mPart0, ok_mPart1, ok_mIfs0, ok_mIfsC, okM_ok, okM_stuck, okM_exc, okM_ite, Ty.below, atI_nat, atI_0, atI_1, atI_2, atI_3, atI_4, atI_5, atI_6, atI_7, atI_last, q_dII, q_dSS, q_dBB, q_dNN, q_dTT, q_dNI, q_dIN, q_dSI, q_dIS, q_dIT, q_dTI, q_dNT, q_dTN, q_dST, q_dTS, q_ds0, q_dsC, q_dsL, q_dsR, q_fI, q_fB, q_fN, q_fT, q_fS, q_f0, q_fC, q_mVar, q_toDv, q_toDt, q_toDo, q_stOv, q_stOt, q_stOo, q_rvOv, q_rvOt, q_rvOo, q_put, q_addI, q_addT, q_addS, q_subI, q_mulI, q_fdivI, q_modI, q_powI, q_shlI, q_shrI, q_addLtt, q_addLot, q_addLoo, q_neg, q_eq, q_ne, q_eqI, q_eqS, q_eqB, q_eqIB, q_eqBI, q_eqT, q_eqSI, q_eqIS, q_eqIT, q_eqTI, q_eqNI, q_eqIN, q_is, q_isnt, q_isNnon, q_isNint, q_isNbl, q_isNstr, q_isNtup, q_isNref, q_lt, q_gt, q_le, q_leT, q_ge, q_in, q_notin, q_trN, q_trB, q_trI, q_trT, q_trS, q_asB, q_subT, q_subR, q_subO, q_subM, q_nodeO, q_nodeR, q_nodeM, q_cutT, q_cutR, q_revT, q_intOf, q_lstR, q_lstM, q_lstO, q_lenT, q_lenS, q_lenR, q_lenO, q_lenM, q_abs, q_intI, q_intB, q_allM, q_anyM, q_sumM, q_tupT, q_tupM, q_tupO, q_tupR, q_listT, q_listM, q_listR, q_listO, q_isi, q_tyN, q_tyB, q_tyI, q_tyS, q_tyT, q_tyR, q_metOk, q_append, q_pop, q_popI, q_setO, q_setR, q_putO, q_walkT, q_walkM, q_walkR, q_walkO, q_setN, q_setM, q_setV, q_setlO, q_rng1, q_rng2, q_settV, q_settT, q_settO, q_opdV, q_opdN, q_addO, q_appL, q_popL, q_sortT, q_sortM, q_sortR, q_sortO, q_sset, q_max, q_min, q_mulT, q_cutO, q_cutM, q_enT, q_enM, q_inIT, q_inTT, q_inIR, q_eqMM, q_extend, q_insert, q_extL, q_insL, q_allO, q_allR, q_anyO, q_anyR, q_sumO, q_sumR, T_16_9, fn_ret (si _)]
      exact q _ (kf.gc ok _)
end LK

set_option linter.all false
set_option maxRecDepth 100000
set_option Elab.async false
set_option autoImplicit false
set_option maxHeartbeats 0
namespace LK
open PySem G
open Y hiding tD
def nA : List D := [.str "a"]
def nB : List D := [.str "a", .str "b"]
theorem v1 : worldsOf 1 1 [.lea 0 1] = [[[0]]] := by decide
theorem v2 : (worldsOf 2 2 [.all 0 1]).length = 10 := by decide
theorem v3 : worldsOf 1 1 [.lea 0 2] = [] := by decide
theorem v4 : worldsOf 1 0 [] = [[]] := by decide
theorem v5 : worldsOf 1 2 [] = [[], [[]], [[0]], [[], []], [[], [0]], [[0], [0]]] := by decide
theorem v6 : (worldsOf 1 5 [.mor 0 0 1]).length = 0 := by decide
theorem v7 : D.srt (wsW [[], [[]], [[0]], [[], []], [[], [0]], [[0], [0]]]) = wsW [[], [[]], [[], []], [[], [0]], [[0]], [[0], [0]]] := by
  simp [wsW, wD, wsD, G.tD, D.srt, D.ins, D.lt, D.ltL, q_dII, q_dTT, q_ds0, q_dsC, q_dsL, q_dsR]
def TT : D := .tup [.tup (wsW [[[0]]]), .int 10, .tup (wsW []), .tup (wsW [[]])]
theorem fTT (h : List Node) : m_9 [TT, TT] h = .ret (.val (.bl true)) h := e9 TT h ⟨9, by simp [TT, wsW, wD, wsD, G.tD, q_fT, q_fC, q_f0, q_fI]⟩ (by simp [TT, wsW, wD, wsD, G.tD, wt, wts])
def TU : D := .tup [.tup (wsW [[], [[]], [[], []], [[], [0]], [[0]], [[0], [0]]]), .int 0]
theorem fTU (h : List Node) : m_9 [TU, TU] h = .ret (.val (.bl true)) h := e9 TU h ⟨9, by simp [TU, wsW, wD, wsD, G.tD, q_fT, q_fC, q_f0, q_fI]⟩ (by simp [TU, wsW, wD, wsD, G.tD, wt, wts])
theorem law_true (ns : List Int) (hl : ns.length ≤ 63) : ∃ h', m_17 [.ref 0] [.fro (ns.map .int)] = .ret (.val (.bl true)) h' := by
  have hlim := lim_eq
  have : Fn m_17 [.ref 0] [.fro (ns.map .int)] fun r h => r = .val (.bl true) := by
    obtain ⟨Q, hQ⟩ : ∃ Q : RV → List Node → Prop, ∀ r h, Q r h ↔ r = .val (.bl true) := ⟨_, fun _ _ => Iff.rfl⟩
    refine Fn.mono (Q := Q) ?_ fun r h q => (hQ r h).mp q
    have fT := fTT
    have fU := fTU
    simp [TT, TU, wsW, wD, wsD, G.tD] at fT fU
    simp [m_17, ir17, fn_mkF, semSs, semS, sems, sem, mean, ok_seq, ok_thenN, ok_drop, ok_mRet, ok_mPar, ok_bind', ok_bind, ok_pure, ok_pure', ok_val, ok_tmp, ok_bl, ok_ite, ok_call, ok_lc, ok_lc2, ok_op2, ok_cmp, ok_truth, ok_subO, ok_cutO, ok_revO, ok_negO, ok_intOf, ok_bi, ok_meth, ok_metOk, ok_putO, ok_isi, ok_mVar, ok_toD, ok_stO, ok_rvO, ok_asB, ok_settle, ok_mRng, ok_walkO, ok_enumO, ok_ssetO, ok_put, ok_putT, ok_puts0, ok_putsC, ok_setNode, ok_mDs0, ok_mDsC, ok_mOs0, ok_mOsC, ok_mPart0, ok_mPart1, ok_mIfs0, ok_mIfsC, okM_ok, okM_stuck, okM_exc, okM_ite, Ty.below, atI_nat, atI_0, atI_1, atI_2, atI_3, atI_4, atI_5, atI_6, atI_7, atI_last, q_dII, q_dSS, q_dBB, q_dNN, q_dTT, q_dNI, q_dIN, q_dSI, q_dIS, q_dIT, q_dTI, q_dNT, q_dTN, q_dST, q_dTS, q_ds0, q_dsC, q_dsL, q_dsR, q_fI, q_fB, q_fN, q_fT, q_fS, q_f0, q_fC, q_mVar, q_toDv, q_toDt, q_toDo, q_stOv, q_stOt, q_stOo, q_rvOv, q_rvOt, q_rvOo, q_put, q_addI, q_addT, q_addS, q_subI, q_mulI, q_fdivI, q_modI, q_powI, q_shlI, q_shrI, q_addLtt, q_addLot, q_addLoo, q_neg, q_eq, q_ne, q_eqI, q_eqS, q_eqB, q_eqIB, q_eqBI, q_eqT, q_eqSI, q_eqIS, q_eqIT, q_eqTI, q_eqNI, q_eqIN, q_is, q_isnt, q_isNnon, q_isNint, q_isNbl, q_isNstr, q_isNtup, q_isNref, q_lt, q_gt, q_le, q_leT, q_ge, q_in, q_notin, q_trN, q_trB, q_trI, q_trT, q_trS, q_asB, q_subT, q_subR, q_subO, q_subM, q_nodeO, q_nodeR, q_nodeM, q_cutT, q_cutR, q_revT, q_intOf, q_lstR, q_lstM, q_lstO, q_lenT, q_lenS, q_lenR, q_lenO, q_lenM, q_abs, q_intI, q_intB, q_allM, q_anyM, q_sumM, q_tupT, q_tupM, q_tupO, q_tupR, q_listT, q_listM, q_listR, q_listO, q_isi, q_tyN, q_tyB, q_tyI, q_tyS, q_tyT, q_tyR, q_metOk, q_append, q_pop, q_popI, q_setO, q_setR, q_putO, q_walkT, q_walkM, q_walkR, q_walkO, q_setN, q_setM, q_setV, q_setlO, q_rng1, q_rng2, q_settV, q_settT, q_settO, q_opdV, q_opdN, q_addO, q_appL, q_popL, q_sortT, q_sortM, q_sortR, q_sortO, q_sset, q_max, q_min, q_mulT, q_cutO, q_cutM, q_enT, q_enM, q_inIT, q_inTT, q_inIR, q_eqMM, q_extend, q_insert, q_extL, q_insL, q_allO, q_allR, q_anyO, q_anyR, q_sumO, q_sumR, T_17_7]
    refine jar_sp T_7 8443 40692 2147483629 123 61 (by decide) (by decide) (by decide) ns hl fun deep mixed m0 m1 => ?_
    simp [fn_mkF, semSs, semS, sems, sem, mean, ok_seq, ok_thenN, ok_drop, ok_mRet, ok_mPar, ok_bind', ok_bind, ok_pure, ok_pure', ok_val, ok_tmp, ok_bl, ok_ite, ok_call, ok_lc, ok_lc2, ok_op2, ok_cmp, ok_truth, ok_subO, ok_cutO, ok_revO, ok_negO, ok_intOf, ok_bi, ok_meth, ok_metOk, ok_putO, ok_isi, ok_mVar, ok_toD, ok_stO, ok_rvO, ok_asB, ok_settle, ok_mRng, ok_walkO, ok_enumO, ok_ssetO, ok_put, ok_putT, ok_puts0, ok_putsC, ok_setNode, ok_mDs0, ok_mDsC, ok_mOs0, ok_mOsC, ok_mPart0, ok_mPart1, ok_mIfs0, ok_mIfsC, okM_ok, okM_stuck, okM_exc, okM_ite, Ty.below, atI_nat, atI_0, atI_1, atI_2, atI_3, atI_4, atI_5, atI_6, atI_7, atI_last, q_dII, q_dSS, q_dBB, q_dNN, q_dTT, q_dNI, q_dIN, q_dSI, q_dIS, q_dIT, q_dTI, q_dNT, q_dTN, q_dST, q_dTS, q_ds0, q_dsC, q_dsL, q_dsR, q_fI, q_fB, q_fN, q_fT, q_fS, q_f0, q_fC, q_mVar, q_toDv, q_toDt, q_toDo, q_stOv, q_stOt, q_stOo, q_rvOv, q_rvOt, q_rvOo, q_put, q_addI, q_addT, q_addS, q_subI, q_mulI, q_fdivI, q_modI, q_powI, q_shlI, q_shrI, q_addLtt, q_addLot, q_addLoo, q_neg, q_eq, q_ne, q_eqI, q_eqS, q_eqB, q_eqIB, q_eqBI, q_eqT, q_eqSI, q_eqIS, q_eqIT, q_eqTI, q_eqNI, q_eqIN, q_is, q_isnt, q_isNnon, q_isNint, q_isNbl, q_isNstr, q_isNtup, q_isNref, q_lt, q_gt, q_le, q_leT, q_ge, q_in, q_notin, q_trN, q_trB, q_trI, q_trT, q_trS, q_asB, q_subT, q_subR, q_subO, q_subM, q_nodeO, q_nodeR, q_nodeM, q_cutT, q_cutR, q_revT, q_intOf, q_lstR, q_lstM, q_lstO, q_lenT, q_lenS, q_lenR, q_lenO, q_lenM, q_abs, q_intI, q_intB, q_allM, q_anyM, q_sumM, q_tupT, q_tupM, q_tupO, q_tupR, q_listT, q_listM, q_listR, q_listO, q_isi, q_tyN, q_tyB, q_tyI, q_tyS, q_tyT, q_tyR, q_metOk, q_append, q_pop, q_popI, q_setO, q_setR, q_putO, q_walkT, q_walkM, q_walkR, q_walkO, q_setN, q_setM, q_setV, q_setlO, q_rng1, q_rng2, q_settV, q_settT, q_settO, q_opdV, q_opdN, q_addO, q_appL, q_popL, q_sortT, q_sortM, q_sortR, q_sortO, q_sset, q_max, q_min, q_mulT, q_cutO, q_cutM, q_enT, q_enM, q_inIT, q_inTT, q_inIR, q_eqMM, q_extend, q_insert, q_extL, q_insL, q_allO, q_allR, q_anyO, q_anyR, q_sumO, q_sumR, T_17_5, T_17_6]
    show Fn m_5 [bk nA [.lea 0 1], .int (1 : Nat)] _ _
    refine e5 1 1 nA [.lea 0 1] _ rfl (by decide) (by decide) (by decide) (by decide) fun x1 => ?_
    rw [v1]
    simp [fn_mkF, semSs, semS, sems, sem, mean, ok_seq, ok_thenN, ok_drop, ok_mRet, ok_mPar, ok_bind', ok_bind, ok_pure, ok_pure', ok_val, ok_tmp, ok_bl, ok_ite, ok_call, ok_lc, ok_lc2, ok_op2, ok_cmp, ok_truth, ok_subO, ok_cutO, ok_revO, ok_negO, ok_intOf, ok_bi, ok_meth, ok_metOk, ok_putO, ok_isi, ok_mVar, ok_toD, ok_stO, ok_rvO, ok_asB, ok_settle, ok_mRng, ok_walkO, ok_enumO, ok_ssetO, ok_put, ok_putT, ok_puts0, ok_putsC, ok_setNode, ok_mDs0, ok_mDsC, ok_mOs0, ok_mOsC, ok_mPart0, ok_mPart1, ok_mIfs0, ok_mIfsC, okM_ok, okM_stuck, okM_exc, okM_ite, Ty.below, atI_nat, atI_0, atI_1, atI_2, atI_3, atI_4, atI_5, atI_6, atI_7, atI_last, q_dII, q_dSS, q_dBB, q_dNN, q_dTT, q_dNI, q_dIN, q_dSI, q_dIS, q_dIT, q_dTI, q_dNT, q_dTN, q_dST, q_dTS, q_ds0, q_dsC, q_dsL, q_dsR, q_fI, q_fB, q_fN, q_fT, q_fS, q_f0, q_fC, q_mVar, q_toDv, q_toDt, q_toDo, q_stOv, q_stOt, q_stOo, q_rvOv, q_rvOt, q_rvOo, q_put, q_addI, q_addT, q_addS, q_subI, q_mulI, q_fdivI, q_modI, q_powI, q_shlI, q_shrI, q_addLtt, q_addLot, q_addLoo, q_neg, q_eq, q_ne, q_eqI, q_eqS, q_eqB, q_eqIB, q_eqBI, q_eqT, q_eqSI, q_eqIS, q_eqIT, q_eqTI, q_eqNI, q_eqIN, q_is, q_isnt, q_isNnon, q_isNint, q_isNbl, q_isNstr, q_isNtup, q_isNref, q_lt, q_gt, q_le, q_leT, q_ge, q_in, q_notin, q_trN, q_trB, q_trI, q_trT, q_trS, q_asB, q_subT, q_subR, q_subO, q_subM, q_nodeO, q_nodeR, q_nodeM, q_cutT, q_cutR, q_revT, q_intOf, q_lstR, q_lstM, q_lstO, q_lenT, q_lenS, q_lenR, q_lenO, q_lenM, q_abs, q_intI, q_intB, q_allM, q_anyM, q_sumM, q_tupT, q_tupM, q_tupO, q_tupR, q_listT, q_listM, q_listR, q_listO, q_isi, q_tyN, q_tyB, q_tyI, q_tyS, q_tyT, q_tyR, q_metOk, q_append, q_pop, q_popI, q_setO, q_setR, q_putO, q_walkT, q_walkM, q_walkR, q_walkO, q_setN, q_setM, q_setV, q_setlO, q_rng1, q_rng2, q_settV, q_settT, q_settO, q_opdV, q_opdN, q_addO, q_appL, q_popL, q_sortT, q_sortM, q_sortR, q_sortO, q_sset, q_max, q_min, q_mulT, q_cutO, q_cutM, q_enT, q_enM, q_inIT, q_inTT, q_inIR, q_eqMM, q_extend, q_insert, q_extL, q_insL, q_allO, q_allR, q_anyO, q_anyR, q_sumO, q_sumR, T_17_5, T_17_6]
    show Fn m_6 [bk nB [.all 0 1], .int (2 : Nat)] _ _
    refine e6 2 2 nB [.all 0 1] _ rfl (by decide) (by decide) (by decide) (by decide) fun x2 => ?_
    rw [v2]
    simp [fn_mkF, semSs, semS, sems, sem, mean, ok_seq, ok_thenN, ok_drop, ok_mRet, ok_mPar, ok_bind', ok_bind, ok_pure, ok_pure', ok_val, ok_tmp, ok_bl, ok_ite, ok_call, ok_lc, ok_lc2, ok_op2, ok_cmp, ok_truth, ok_subO, ok_cutO, ok_revO, ok_negO, ok_intOf, ok_bi, ok_meth, ok_metOk, ok_putO, ok_isi, ok_mVar, ok_toD, ok_stO, ok_rvO, ok_asB, ok_settle, ok_mRng, ok_walkO, ok_enumO, ok_ssetO, ok_put, ok_putT, ok_puts0, ok_putsC, ok_setNode, ok_mDs0, ok_mDsC, ok_mOs0, ok_mOsC, ok_mPart0, ok_mPart1, ok_mIfs0, ok_mIfsC, okM_ok, okM_stuck, okM_exc, okM_ite, Ty.below, atI_nat, atI_0, atI_1, atI_2, atI_3, atI_4, atI_5, atI_6, atI_7, atI_last, q_dII, q_dSS, q_dBB, q_dNN, q_dTT, q_dNI, q_dIN, q_dSI, q_dIS, q_dIT, q_dTI, q_dNT, q_dTN, q_dST, q_dTS, q_ds0, q_dsC, q_dsL, q_dsR, q_fI, q_fB, q_fN, q_fT, q_fS, q_f0, q_fC, q_mVar, q_toDv, q_toDt, q_toDo, q_stOv, q_stOt, q_stOo, q_rvOv, q_rvOt, q_rvOo, q_put, q_addI, q_addT, q_addS, q_subI, q_mulI, q_fdivI, q_modI, q_powI, q_shlI, q_shrI, q_addLtt, q_addLot, q_addLoo, q_neg, q_eq, q_ne, q_eqI, q_eqS, q_eqB, q_eqIB, q_eqBI, q_eqT, q_eqSI, q_eqIS, q_eqIT, q_eqTI, q_eqNI, q_eqIN, q_is, q_isnt, q_isNnon, q_isNint, q_isNbl, q_isNstr, q_isNtup, q_isNref, q_lt, q_gt, q_le, q_leT, q_ge, q_in, q_notin, q_trN, q_trB, q_trI, q_trT, q_trS, q_asB, q_subT, q_subR, q_subO, q_subM, q_nodeO, q_nodeR, q_nodeM, q_cutT, q_cutR, q_revT, q_intOf, q_lstR, q_lstM, q_lstO, q_lenT, q_lenS, q_lenR, q_lenO, q_lenM, q_abs, q_intI, q_intB, q_allM, q_anyM, q_sumM, q_tupT, q_tupM, q_tupO, q_tupR, q_listT, q_listM, q_listR, q_listO, q_isi, q_tyN, q_tyB, q_tyI, q_tyS, q_tyT, q_tyR, q_metOk, q_append, q_pop, q_popI, q_setO, q_setR, q_putO, q_walkT, q_walkM, q_walkR, q_walkO, q_setN, q_setM, q_setV, q_setlO, q_rng1, q_rng2, q_settV, q_settT, q_settO, q_opdV, q_opdN, q_addO, q_appL, q_popL, q_sortT, q_sortM, q_sortR, q_sortO, q_sset, q_max, q_min, q_mulT, q_cutO, q_cutM, q_enT, q_enM, q_inIT, q_inTT, q_inIR, q_eqMM, q_extend, q_insert, q_extL, q_insL, q_allO, q_allR, q_anyO, q_anyR, q_sumO, q_sumR, T_17_5, T_17_6]
    show Fn m_5 [bk nA [.lea 0 2], .int (1 : Nat)] _ _
    refine e5 1 1 nA [.lea 0 2] _ rfl (by decide) (by decide) (by decide) (by decide) fun x3 => ?_
    rw [v3]
    simp [fn_mkF, semSs, semS, sems, sem, mean, ok_seq, ok_thenN, ok_drop, ok_mRet, ok_mPar, ok_bind', ok_bind, ok_pure, ok_pure', ok_val, ok_tmp, ok_bl, ok_ite, ok_call, ok_lc, ok_lc2, ok_op2, ok_cmp, ok_truth, ok_subO, ok_cutO, ok_revO, ok_negO, ok_intOf, ok_bi, ok_meth, ok_metOk, ok_putO, ok_isi, ok_mVar, ok_toD, ok_stO, ok_rvO, ok_asB, ok_settle, ok_mRng, ok_walkO, ok_enumO, ok_ssetO, ok_put, ok_putT, ok_puts0, ok_putsC, ok_setNode, ok_mDs0, ok_mDsC, ok_mOs0, ok_mOsC, ok_mPart0, ok_mPart1, ok_mIfs0, ok_mIfsC, okM_ok, okM_stuck, okM_exc, okM_ite, Ty.below, atI_nat, atI_0, atI_1, atI_2, atI_3, atI_4, atI_5, atI_6, atI_7, atI_last, q_dII, q_dSS, q_dBB, q_dNN, q_dTT, q_dNI, q_dIN, q_dSI, q_dIS, q_dIT, q_dTI, q_dNT, q_dTN, q_dST, q_dTS, q_ds0, q_dsC, q_dsL, q_dsR, q_fI, q_fB, q_fN, q_fT, q_fS, q_f0, q_fC, q_mVar, q_toDv, q_toDt, q_toDo, q_stOv, q_stOt, q_stOo, q_rvOv, q_rvOt, q_rvOo, q_put, q_addI, q_addT, q_addS, q_subI, q_mulI, q_fdivI, q_modI, q_powI, q_shlI, q_shrI, q_addLtt, q_addLot, q_addLoo, q_neg, q_eq, q_ne, q_eqI, q_eqS, q_eqB, q_eqIB, q_eqBI, q_eqT, q_eqSI, q_eqIS, q_eqIT, q_eqTI, q_eqNI, q_eqIN, q_is, q_isnt, q_isNnon, q_isNint, q_isNbl, q_isNstr, q_isNtup, q_isNref, q_lt, q_gt, q_le, q_leT, q_ge, q_in, q_notin, q_trN, q_trB, q_trI, q_trT, q_trS, q_asB, q_subT, q_subR, q_subO, q_subM, q_nodeO, q_nodeR, q_nodeM, q_cutT, q_cutR, q_revT, q_intOf, q_lstR, q_lstM, q_lstO, q_lenT, q_lenS, q_lenR, q_lenO, q_lenM, q_abs, q_intI, q_intB, q_allM, q_anyM, q_sumM, q_tupT, q_tupM, q_tupO, q_tupR, q_listT, q_listM, q_listR, q_listO, q_isi, q_tyN, q_tyB, q_tyI, q_tyS, q_tyT, q_tyR, q_metOk, q_append, q_pop, q_popI, q_setO, q_setR, q_putO, q_walkT, q_walkM, q_walkR, q_walkO, q_setN, q_setM, q_setV, q_setlO, q_rng1, q_rng2, q_settV, q_settT, q_settO, q_opdV, q_opdN, q_addO, q_appL, q_popL, q_sortT, q_sortM, q_sortR, q_sortO, q_sset, q_max, q_min, q_mulT, q_cutO, q_cutM, q_enT, q_enM, q_inIT, q_inTT, q_inIR, q_eqMM, q_extend, q_insert, q_extL, q_insL, q_allO, q_allR, q_anyO, q_anyR, q_sumO, q_sumR, T_17_5, T_17_6]
    show Fn m_5 [bk nA [], .int (0 : Nat)] _ _
    refine e5 1 0 nA [] _ rfl (by decide) (by decide) (by decide) (by decide) fun x4 => ?_
    rw [v4]
    simp [fn_mkF, semSs, semS, sems, sem, mean, ok_seq, ok_thenN, ok_drop, ok_mRet, ok_mPar, ok_bind', ok_bind, ok_pure, ok_pure', ok_val, ok_tmp, ok_bl, ok_ite, ok_call, ok_lc, ok_lc2, ok_op2, ok_cmp, ok_truth, ok_subO, ok_cutO, ok_revO, ok_negO, ok_intOf, ok_bi, ok_meth, ok_metOk, ok_putO, ok_isi, ok_mVar, ok_toD, ok_stO, ok_rvO, ok_asB, ok_settle, ok_mRng, ok_walkO, ok_enumO, ok_ssetO, ok_put, ok_putT, ok_puts0, ok_putsC, ok_setNode, ok_mDs0, ok_mDsC, ok_mOs0, ok_mOsC, ok_mPart0, ok_mPart1, ok_mIfs0, ok_mIfsC, okM_ok, okM_stuck, okM_exc, okM_ite, Ty.below, atI_nat, atI_0, atI_1, atI_2, atI_3, atI_4, atI_5, atI_6, atI_7, atI_last, q_dII, q_dSS, q_dBB, q_dNN, q_dTT, q_dNI, q_dIN, q_dSI, q_dIS, q_dIT, q_dTI, q_dNT, q_dTN, q_dST, q_dTS, q_ds0, q_dsC, q_dsL, q_dsR, q_fI, q_fB, q_fN, q_fT, q_fS, q_f0, q_fC, q_mVar, q_toDv, q_toDt, q_toDo, q_stOv, q_stOt, q_stOo, q_rvOv, q_rvOt, q_rvOo, q_put, q_addI, q_addT, q_addS, q_subI, q_mulI, q_fdivI, q_modI, q_powI, q_shlI, q_shrI, q_addLtt, q_addLot, q_addLoo, q_neg, q_eq, q_ne, q_eqI, q_eqS, q_eqB, q_eqIB, q_eqBI, q_eqT, q_eqSI, q_eqIS, q_eqIT, q_eqTI, q_eqNI, q_eqIN, q_is, q_isnt, q_isNnon, q_isNint, q_isNbl, q_isNstr, q_isNtup, q_isNref, q_lt, q_gt, q_le, q_leT, q_ge, q_in, q_notin, q_trN, q_trB, q_trI, q_trT, q_trS, q_asB, q_subT, q_subR, q_subO, q_subM, q_nodeO, q_nodeR, q_nodeM, q_cutT, q_cutR, q_revT, q_intOf, q_lstR, q_lstM, q_lstO, q_lenT, q_lenS, q_lenR, q_lenO, q_lenM, q_abs, q_intI, q_intB, q_allM, q_anyM, q_sumM, q_tupT, q_tupM, q_tupO, q_tupR, q_listT, q_listM, q_listR, q_listO, q_isi, q_tyN, q_tyB, q_tyI, q_tyS, q_tyT, q_tyR, q_metOk, q_append, q_pop, q_popI, q_setO, q_setR, q_putO, q_walkT, q_walkM, q_walkR, q_walkO, q_setN, q_setM, q_setV, q_setlO, q_rng1, q_rng2, q_settV, q_settT, q_settO, q_opdV, q_opdN, q_addO, q_appL, q_popL, q_sortT, q_sortM, q_sortR, q_sortO, q_sset, q_max, q_min, q_mulT, q_cutO, q_cutM, q_enT, q_enM, q_inIT, q_inTT, q_inIR, q_eqMM, q_extend, q_insert, q_extL, q_insL, q_allO, q_allR, q_anyO, q_anyR, q_sumO, q_sumR, T_17_5, T_17_6, T_17_9, wsW, wD, wsD, G.tD, D.srt, D.ins, fn_ret (fT _)]
    show Fn m_5 [bk nA [], .int (2 : Nat)] _ _
    refine e5 1 2 nA [] _ rfl (by decide) (by decide) (by decide) (by decide) fun x5 => ?_
    rw [v5, v7]
    simp [fn_mkF, semSs, semS, sems, sem, mean, ok_seq, ok_thenN, ok_drop, ok_mRet, ok_mPar, ok_bind', ok_bind, ok_pure, ok_pure', ok_val, ok_tmp, ok_bl, ok_ite, ok_call, ok_lc, ok_lc2, ok_op2, ok_cmp, ok_truth, ok_subO, ok_cutO, ok_revO, ok_negO, ok_intOf, ok_bi, ok_meth, ok_metOk, ok_putO, ok_isi, ok_mVar, ok_toD, ok_stO, ok_rvO, ok_asB, ok_settle, ok_mRng, ok_walkO, ok_enumO, ok_ssetO, ok_put, ok_putT, ok_puts0, ok_putsC, ok_setNode, ok_mDs0, ok_mDsC, ok_mOs0, ok_mOsC, ok_mPart0, ok_mPart1, ok_mIfs0, ok_mIfsC, okM_ok, okM_stuck, okM_exc, okM_ite, Ty.below, atI_nat, atI_0, atI_1, atI_2, atI_3, atI_4, atI_5, atI_6, atI_7, atI_last, q_dII, q_dSS, q_dBB, q_dNN, q_dTT, q_dNI, q_dIN, q_dSI, q_dIS, q_dIT, q_dTI, q_dNT, q_dTN, q_dST, q_dTS, q_ds0, q_dsC, q_dsL, q_dsR, q_fI, q_fB, q_fN, q_fT, q_fS, q_f0, q_fC, q_mVar, q_toDv, q_toDt, q_toDo, q_stOv, q_stOt, q_stOo, q_rvOv, q_rvOt, q_rvOo, q_put, q_addI, q_addT, q_addS, q_subI, q_mulI, q_fdivI, q_modI, q_powI, q_shlI, q_shrI, q_addLtt, q_addLot, q_addLoo, q_neg, q_eq, q_ne, q_eqI, q_eqS, q_eqB, q_eqIB, q_eqBI, q_eqT, q_eqSI, q_eqIS, q_eqIT, q_eqTI, q_eqNI, q_eqIN, q_is, q_isnt, q_isNnon, q_isNint, q_isNbl, q_isNstr, q_isNtup, q_isNref, q_lt, q_gt, q_le, q_leT, q_ge, q_in, q_notin, q_trN, q_trB, q_trI, q_trT, q_trS, q_asB, q_subT, q_subR, q_subO, q_subM, q_nodeO, q_nodeR, q_nodeM, q_cutT, q_cutR, q_revT, q_intOf, q_lstR, q_lstM, q_lstO, q_lenT, q_lenS, q_lenR, q_lenO, q_lenM, q_abs, q_intI, q_intB, q_allM, q_anyM, q_sumM, q_tupT, q_tupM, q_tupO, q_tupR, q_listT, q_listM, q_listR, q_listO, q_isi, q_tyN, q_tyB, q_tyI, q_tyS, q_tyT, q_tyR, q_metOk, q_append, q_pop, q_popI, q_setO, q_setR, q_putO, q_walkT, q_walkM, q_walkR, q_walkO, q_setN, q_setM, q_setV, q_setlO, q_rng1, q_rng2, q_settV, q_settT, q_settO, q_opdV, q_opdN, q_addO, q_appL, q_popL, q_sortT, q_sortM, q_sortR, q_sortO, q_sset, q_max, q_min, q_mulT, q_cutO, q_cutM, q_enT, q_enM, q_inIT, q_inTT, q_inIR, q_eqMM, q_extend, q_insert, q_extL, q_insL, q_allO, q_allR, q_anyO, q_anyR, q_sumO, q_sumR, T_17_5, T_17_6]
    show Fn m_6 [bk nA [.mor 0 0 1], .int (5 : Nat)] _ _
    refine e6 1 5 nA [.mor 0 0 1] _ rfl (by decide) (by decide) (by decide) (by decide) fun x6 => ?_
    rw [v6]
    simp [fn_mkF, semSs, semS, sems, sem, mean, ok_seq, ok_thenN, ok_drop, ok_mRet, ok_mPar, ok_bind', ok_bind, ok_pure, ok_pure', ok_val, ok_tmp, ok_bl, ok_ite, ok_call, ok_lc, ok_lc2, ok_op2, ok_cmp, ok_truth, ok_subO, ok_cutO, ok_revO, ok_negO, ok_intOf, ok_bi, ok_meth, ok_metOk, ok_putO, ok_isi, ok_mVar, ok_toD, ok_stO, ok_rvO, ok_asB, ok_settle, ok_mRng, ok_walkO, ok_enumO, ok_ssetO, ok_put, ok_putT, ok_puts0, ok_putsC, ok_setNode, ok_mDs0, ok_mDsC, ok_mOs0, ok_mOsC, ok_mPart0, ok_mPart1, ok_mIfs0, ok_mIfsC, okM_ok, okM_stuck, okM_exc, okM_ite, Ty.below, atI_nat, atI_0, atI_1, atI_2, atI_3, atI_4, atI_5, atI_6, atI_7, atI_last, q_dII, q_dSS, q_dBB, q_dNN, q_dTT, q_dNI, q_dIN, q_dSI, q_dIS, q_dIT, q_dTI, q_dNT, q_dTN, q_dST, q_dTS, q_ds0, q_dsC, q_dsL, q_dsR, q_fI, q_fB, q_fN, q_fT, q_fS, q_f0, q_fC, q_mVar, q_toDv, q_toDt, q_toDo, q_stOv, q_stOt, q_stOo, q_rvOv, q_rvOt, q_rvOo, q_put, q_addI, q_addT, q_addS, q_subI, q_mulI, q_fdivI, q_modI, q_powI, q_shlI, q_shrI, q_addLtt, q_addLot, q_addLoo, q_neg, q_eq, q_ne, q_eqI, q_eqS, q_eqB, q_eqIB, q_eqBI, q_eqT, q_eqSI, q_eqIS, q_eqIT, q_eqTI, q_eqNI, q_eqIN, q_is, q_isnt, q_isNnon, q_isNint, q_isNbl, q_isNstr, q_isNtup, q_isNref, q_lt, q_gt, q_le, q_leT, q_ge, q_in, q_notin, q_trN, q_trB, q_trI, q_trT, q_trS, q_asB, q_subT, q_subR, q_subO, q_subM, q_nodeO, q_nodeR, q_nodeM, q_cutT, q_cutR, q_revT, q_intOf, q_lstR, q_lstM, q_lstO, q_lenT, q_lenS, q_lenR, q_lenO, q_lenM, q_abs, q_intI, q_intB, q_allM, q_anyM, q_sumM, q_tupT, q_tupM, q_tupO, q_tupR, q_listT, q_listM, q_listR, q_listO, q_isi, q_tyN, q_tyB, q_tyI, q_tyS, q_tyT, q_tyR, q_metOk, q_append, q_pop, q_popI, q_setO, q_setR, q_putO, q_walkT, q_walkM, q_walkR, q_walkO, q_setN, q_setM, q_setV, q_setlO, q_rng1, q_rng2, q_settV, q_settT, q_settO, q_opdV, q_opdN, q_addO, q_appL, q_popL, q_sortT, q_sortM, q_sortR, q_sortO, q_sset, q_max, q_min, q_mulT, q_cutO, q_cutM, q_enT, q_enM, q_inIT, q_inTT, q_inIR, q_eqMM, q_extend, q_insert, q_extL, q_insL, q_allO, q_allR, q_anyO, q_anyR, q_sumO, q_sumR, T_17_9, wsW, wD, wsD, G.tD, fn_ret (fU _), show small 3 by decide]
    obtain ⟨I, hI⟩ : ∃ I : List D → St → Prop, ∀ ds s, I ds s ↔ (ds = upD 0 3 ∧ ∃ (x2 x3 x4 x5 : Y.Slot) (hp : List Node), hp[1]? = some (.lst (deep.map .int)) ∧ s = ⟨[.val (.ref 0), .own (.lst [.ref 1, .int mixed]), x2, x3, x4, x5], hp⟩) ∨
      ∃ (l : Nat) (ne : 1 ≠ l) (x2 x3 x4 x5 : Y.Slot) (hp : List Node), (jarR l 1 ne).ok hp ∧ s = ⟨[.val (.ref 0), .val (.ref l), x2, x3, x4, x5], hp⟩ := ⟨_, fun _ _ => Iff.rfl⟩
    refine ok_for I ?_ ?_ _ _ ((hI _ _).mpr (.inl ⟨rfl, _, _, _, _, _, by simp, rfl⟩))
    · intro d ds s hs
      rcases (hI _ _).mp hs with ⟨hds, x2, x3, x4, x5, hp, e1, rfl⟩ | ⟨l, ne, x2, x3, x4, x5, hp, ok, rfl⟩
      · refine ⟨same_none, ?_⟩
        have lt1 : 1 < hp.length := (List.getElem?_eq_some_iff.mp e1).1
        have ne : 1 ≠ hp.length := by omega
        have tk : TakeSp (jarR hp.length 1 ne) m_8 := e8 hp.length 1 ne
        have ok : (jarR hp.length 1 ne).ok (hp ++ [.lst [.ref 1, .int mixed]]) := ⟨deep, mixed, m0, m1, by simp, by rw [List.getElem?_append_left lt1]; exact e1⟩
        simp [fn_mkF, semSs, semS, sems, sem, mean, ok_seq, ok_thenN, ok_drop, ok_mRet, ok_mPar, ok_bind', ok_bind, ok_pure, ok_pure', ok_val, ok_tmp, ok_bl, ok_ite, ok_call, ok_lc, ok_lc2, ok_op2, ok_cmp, ok_truth, ok_subO, ok_cutO, ok_revO, ok_negO, ok_intOf, ok_bi, ok_meth, ok_metOk, ok_putO, ok_isi, ok_mVar, ok_toD, ok_stO, ok_rvO, ok_asB, ok_settle, ok_mRng, ok_walkO, ok_enumO, ok_ssetO, ok_put, ok_putT, ok_puts0, ok_putsC, ok_setNode, ok_mDs0, ok_mDsC, ok_mOs0, ok_mOsC, ok_mPart0, ok_mPart1, ok_mIfs0, ok_mIfsC, okM_ok, okM_stuck, okM_exc, okM_ite, Ty.below, atI_nat, atI_0, atI_1, atI_2, atI_3, atI_4, atI_5, atI_6, atI_7, atI_last, q_dII, q_dSS, q_dBB, q_dNN, q_dTT, q_dNI, q_dIN, q_dSI, q_dIS, q_dIT, q_dTI, q_dNT, q_dTN, q_dST, q_dTS, q_ds0, q_dsC, q_dsL, q_dsR, q_fI, q_fB, q_fN, q_fT, q_fS, q_f0, q_fC, q_mVar, q_toDv, q_toDt, q_toDo, q_stOv, q_stOt, q_stOo, q_rvOv, q_rvOt, q_rvOo, q_put, q_addI, q_addT, q_addS, q_subI, q_mulI, q_fdivI, q_modI, q_powI, q_shlI, q_shrI, q_addLtt, q_addLot, q_addLoo, q_neg, q_eq, q_ne, q_eqI, q_eqS, q_eqB, q_eqIB, q_eqBI, q_eqT, q_eqSI, q_eqIS, q_eqIT, q_eqTI, q_eqNI, q_eqIN, q_is, q_isnt, q_isNnon, q_isNint, q_isNbl, q_isNstr, q_isNtup, q_isNref, q_lt, q_gt, q_le, q_leT, q_ge, q_in, q_notin, q_trN, q_trB, q_trI, q_trT, q_trS, q_asB, q_subT, q_subR, q_subO, q_subM, q_nodeO, q_nodeR, q_nodeM, q_cutT, q_cutR, q_revT, q_intOf, q_lstR, q_lstM, q_lstO, q_lenT, q_lenS, q_lenR, q_lenO, q_lenM, q_abs, q_intI, q_intB, q_allM, q_anyM, q_sumM, q_tupT, q_tupM, q_tupO, q_tupR, q_listT, q_listM, q_listR, q_listO, q_isi, q_tyN, q_tyB, q_tyI, q_tyS, q_tyT, q_tyR, q_metOk, q_append, q_pop, q_popI, q_setO, q_setR, q_putO, q_walkT, q_walkM, q_walkR, q_walkO, q_setN, q_setM, q_setV, q_setlO, q_rng1, q_rng2, q_settV, q_settT, q_settO, q_opdV, q_opdN, q_addO, q_appL, q_popL, q_sortT, q_sortM, q_sortR, q_sortO, q_sset, q_max, q_min, q_mulT, q_cutO, q_cutM, q_enT, q_enM, q_inIT, q_inTT, q_inIR, q_eqMM, q_extend, q_insert, q_extL, q_insL, q_allO, q_allR, q_anyO, q_anyR, q_sumO, q_sumR, T_17_8]
        refine tk ok (by omega) (by omega) fun k h2 k0 k1 kk z => ?_
        have kb : 1 ≤ 1 + k ∧ 1 + k ≤ 3 := by omega
        obtain ⟨M, hM⟩ : ∃ M : Nat, (1 + k : Int) = M := ⟨(1 + k).toNat, by omega⟩
        rw [hM] at kb
        obtain ⟨c, hc, c1, c2⟩ : ∃ c : Int, atI [.int 6, .int 6, .int 4] ((M : Int) - 1) = some (.int c) ∧ 0 < c ∧ c ≤ 6 := by
          have : M = 1 ∨ M = 2 ∨ M = 3 := by omega
          rcases this with rfl | rfl | rfl <;> exact ⟨_, rfl, by decide, by decide⟩
        simp [fn_mkF, semSs, semS, sems, sem, mean, ok_seq, ok_thenN, ok_drop, ok_mRet, ok_mPar, ok_bind', ok_bind, ok_pure, ok_pure', ok_val, ok_tmp, ok_bl, ok_ite, ok_call, ok_lc, ok_lc2, ok_op2, ok_cmp, ok_truth, ok_subO, ok_cutO, ok_revO, ok_negO, ok_intOf, ok_bi, ok_meth, ok_metOk, ok_putO, ok_isi, ok_mVar, ok_toD, ok_stO, ok_rvO, ok_asB, ok_settle, ok_mRng, ok_walkO, ok_enumO, ok_ssetO, ok_put, ok_putT, ok_puts0, ok_putsC, ok_setNode, ok_mDs0, ok_mDsC, ok_mOs0, ok_mOsC, ok_mPart0, ok_mPart1, ok_mIfs0, ok_mIfsC, okM_ok, okM_stuck, okM_exc, okM_ite, Ty.below, atI_nat, atI_0, atI_1, atI_2, atI_3, atI_4, atI_5, atI_6, atI_7, atI_last, q_dII, q_dSS, q_dBB, q_dNN, q_dTT, q_dNI, q_dIN, q_dSI, q_dIS, q_dIT, q_dTI, q_dNT, q_dTN, q_dST, q_dTS, q_ds0, q_dsC, q_dsL, q_dsR, q_fI, q_fB, q_fN, q_fT, q_fS, q_f0, q_fC, q_mVar, q_toDv, q_toDt, q_toDo, q_stOv, q_stOt, q_stOo, q_rvOv, q_rvOt, q_rvOo, q_put, q_addI, q_addT, q_addS, q_subI, q_mulI, q_fdivI, q_modI, q_powI, q_shlI, q_shrI, q_addLtt, q_addLot, q_addLoo, q_neg, q_eq, q_ne, q_eqI, q_eqS, q_eqB, q_eqIB, q_eqBI, q_eqT, q_eqSI, q_eqIS, q_eqIT, q_eqTI, q_eqNI, q_eqIN, q_is, q_isnt, q_isNnon, q_isNint, q_isNbl, q_isNstr, q_isNtup, q_isNref, q_lt, q_gt, q_le, q_leT, q_ge, q_in, q_notin, q_trN, q_trB, q_trI, q_trT, q_trS, q_asB, q_subT, q_subR, q_subO, q_subM, q_nodeO, q_nodeR, q_nodeM, q_cutT, q_cutR, q_revT, q_intOf, q_lstR, q_lstM, q_lstO, q_lenT, q_lenS, q_lenR, q_lenO, q_lenM, q_abs, q_intI, q_intB, q_allM, q_anyM, q_sumM, q_tupT, q_tupM, q_tupO, q_tupR, q_listT, q_listM, q_listR, q_listO, q_isi, q_tyN, q_tyB, q_tyI, q_tyS, q_tyT, q_tyR, q_metOk, q_append, q_pop, q_popI, q_setO, q_setR, q_putO, q_walkT, q_walkM, q_walkR, q_walkO, q_setN, q_setM, q_setV, q_setlO, q_rng1, q_rng2, q_settV, q_settT, q_settO, q_opdV, q_opdN, q_addO, q_appL, q_popL, q_sortT, q_sortM, q_sortR, q_sortO, q_sset, q_max, q_min, q_mulT, q_cutO, q_cutM, q_enT, q_enM, q_inIT, q_inTT, q_inIR, q_eqMM, q_extend, q_insert, q_extL, q_insL, q_allO, q_allR, q_anyO, q_anyR, q_sumO, q_sumR, T_17_8, hM, hc]
        refine tk kk.ok (by omega) (by omega) fun m h3 d0 d1 k3 z3 => ?_
        obtain ⟨m, rfl⟩ := Int.eq_ofNat_of_zero_le d0
        simp [fn_mkF, semSs, semS, sems, sem, mean, ok_seq, ok_thenN, ok_drop, ok_mRet, ok_mPar, ok_bind', ok_bind, ok_pure, ok_pure', ok_val, ok_tmp, ok_bl, ok_ite, ok_call, ok_lc, ok_lc2, ok_op2, ok_cmp, ok_truth, ok_subO, ok_cutO, ok_revO, ok_negO, ok_intOf, ok_bi, ok_meth, ok_metOk, ok_putO, ok_isi, ok_mVar, ok_toD, ok_stO, ok_rvO, ok_asB, ok_settle, ok_mRng, ok_walkO, ok_enumO, ok_ssetO, ok_put, ok_putT, ok_puts0, ok_putsC, ok_setNode, ok_mDs0, ok_mDsC, ok_mOs0, ok_mOsC, ok_mPart0, ok_mPart1, ok_mIfs0, ok_mIfsC, okM_ok, okM_stuck, okM_exc, okM_ite, Ty.below, atI_nat, atI_0, atI_1, atI_2, atI_3, atI_4, atI_5, atI_6, atI_7, atI_last, q_dII, q_dSS, q_dBB, q_dNN, q_dTT, q_dNI, q_dIN, q_dSI, q_dIS, q_dIT, q_dTI, q_dNT, q_dTN, q_dST, q_dTS, q_ds0, q_dsC, q_dsL, q_dsR, q_fI, q_fB, q_fN, q_fT, q_fS, q_f0, q_fC, q_mVar, q_toDv, q_toDt, q_toDo, q_stOv, q_stOt, q_stOo, q_rvOv, q_rvOt, q_rvOo, q_put, q_addI, q_addT, q_addS, q_subI, q_mulI, q_fdivI, q_modI, q_powI, q_shlI, q_shrI, q_addLtt, q_addLot, q_addLoo, q_neg, q_eq, q_ne, q_eqI, q_eqS, q_eqB, q_eqIB, q_eqBI, q_eqT, q_eqSI, q_eqIS, q_eqIT, q_eqTI, q_eqNI, q_eqIN, q_is, q_isnt, q_isNnon, q_isNint, q_isNbl, q_isNstr, q_isNtup, q_isNref, q_lt, q_gt, q_le, q_leT, q_ge, q_in, q_notin, q_trN, q_trB, q_trI, q_trT, q_trS, q_asB, q_subT, q_subR, q_subO, q_subM, q_nodeO, q_nodeR, q_nodeM, q_cutT, q_cutR, q_revT, q_intOf, q_lstR, q_lstM, q_lstO, q_lenT, q_lenS, q_lenR, q_lenO, q_lenM, q_abs, q_intI, q_intB, q_allM, q_anyM, q_sumM, q_tupT, q_tupM, q_tupO, q_tupR, q_listT, q_listM, q_listR, q_listO, q_isi, q_tyN, q_tyB, q_tyI, q_tyS, q_tyT, q_tyR, q_metOk, q_append, q_pop, q_popI, q_setO, q_setR, q_putO, q_walkT, q_walkM, q_walkR, q_walkO, q_setN, q_setM, q_setV, q_setlO, q_rng1, q_rng2, q_settV, q_settT, q_settO, q_opdV, q_opdN, q_addO, q_appL, q_popL, q_sortT, q_sortM, q_sortR, q_sortO, q_sset, q_max, q_min, q_mulT, q_cutO, q_cutM, q_enT, q_enM, q_inIT, q_inTT, q_inIR, q_eqMM, q_extend, q_insert, q_extL, q_insL, q_allO, q_allR, q_anyO, q_anyR, q_sumO, q_sumR, T_17_8]
        refine tk k3.ok (by omega) (by omega) fun c5 h4 f0 f1 k4 z4 => ?_
        obtain ⟨C, rfl⟩ := Int.eq_ofNat_of_zero_le f0
        simp [fn_mkF, semSs, semS, sems, sem, mean, ok_seq, ok_thenN, ok_drop, ok_mRet, ok_mPar, ok_bind', ok_bind, ok_pure, ok_pure', ok_val, ok_tmp, ok_bl, ok_ite, ok_call, ok_lc, ok_lc2, ok_op2, ok_cmp, ok_truth, ok_subO, ok_cutO, ok_revO, ok_negO, ok_intOf, ok_bi, ok_meth, ok_metOk, ok_putO, ok_isi, ok_mVar, ok_toD, ok_stO, ok_rvO, ok_asB, ok_settle, ok_mRng, ok_walkO, ok_enumO, ok_ssetO, ok_put, ok_putT, ok_puts0, ok_putsC, ok_setNode, ok_mDs0, ok_mDsC, ok_mOs0, ok_mOsC, ok_mPart0, ok_mPart1, ok_mIfs0, ok_mIfsC, okM_ok, okM_stuck, okM_exc, okM_ite, Ty.below, atI_nat, atI_0, atI_1, atI_2, atI_3, atI_4, atI_5, atI_6, atI_7, atI_last, q_dII, q_dSS, q_dBB, q_dNN, q_dTT, q_dNI, q_dIN, q_dSI, q_dIS, q_dIT, q_dTI, q_dNT, q_dTN, q_dST, q_dTS, q_ds0, q_dsC, q_dsL, q_dsR, q_fI, q_fB, q_fN, q_fT, q_fS, q_f0, q_fC, q_mVar, q_toDv, q_toDt, q_toDo, q_stOv, q_stOt, q_stOo, q_rvOv, q_rvOt, q_rvOo, q_put, q_addI, q_addT, q_addS, q_subI, q_mulI, q_fdivI, q_modI, q_powI, q_shlI, q_shrI, q_addLtt, q_addLot, q_addLoo, q_neg, q_eq, q_ne, q_eqI, q_eqS, q_eqB, q_eqIB, q_eqBI, q_eqT, q_eqSI, q_eqIS, q_eqIT, q_eqTI, q_eqNI, q_eqIN, q_is, q_isnt, q_isNnon, q_isNint, q_isNbl, q_isNstr, q_isNtup, q_isNref, q_lt, q_gt, q_le, q_leT, q_ge, q_in, q_notin, q_trN, q_trB, q_trI, q_trT, q_trS, q_asB, q_subT, q_subR, q_subO, q_subM, q_nodeO, q_nodeR, q_nodeM, q_cutT, q_cutR, q_revT, q_intOf, q_lstR, q_lstM, q_lstO, q_lenT, q_lenS, q_lenR, q_lenO, q_lenM, q_abs, q_intI, q_intB, q_allM, q_anyM, q_sumM, q_tupT, q_tupM, q_tupO, q_tupR, q_listT, q_listM, q_listR, q_listO, q_isi, q_tyN, q_tyB, q_tyI, q_tyS, q_tyT, q_tyR, q_metOk, q_append, q_pop, q_popI, q_setO, q_setR, q_putO, q_walkT, q_walkM, q_walkR, q_walkO, q_setN, q_setM, q_setV, q_setlO, q_rng1, q_rng2, q_settV, q_settT, q_settO, q_opdV, q_opdN, q_addO, q_appL, q_popL, q_sortT, q_sortM, q_sortR, q_sortO, q_sset, q_max, q_min, q_mulT, q_cutO, q_cutM, q_enT, q_enM, q_inIT, q_inTT, q_inIR, q_eqMM, q_extend, q_insert, q_extL, q_insL, q_allO, q_allR, q_anyO, q_anyR, q_sumO, q_sumR, T_17_11]
        refine e11 tk M C 4 h4 (by omega) (by omega) (by omega) (by omega) k4.ok fun names ss h5 hn hs hso k5 => ?_
        simp [fn_mkF, semSs, semS, sems, sem, mean, ok_seq, ok_thenN, ok_drop, ok_mRet, ok_mPar, ok_bind', ok_bind, ok_pure, ok_pure', ok_val, ok_tmp, ok_bl, ok_ite, ok_call, ok_lc, ok_lc2, ok_op2, ok_cmp, ok_truth, ok_subO, ok_cutO, ok_revO, ok_negO, ok_intOf, ok_bi, ok_meth, ok_metOk, ok_putO, ok_isi, ok_mVar, ok_toD, ok_stO, ok_rvO, ok_asB, ok_settle, ok_mRng, ok_walkO, ok_enumO, ok_ssetO, ok_put, ok_putT, ok_puts0, ok_putsC, ok_setNode, ok_mDs0, ok_mDsC, ok_mOs0, ok_mOsC, ok_mPart0, ok_mPart1, ok_mIfs0, ok_mIfsC, okM_ok, okM_stuck, okM_exc, okM_ite, Ty.below, atI_nat, atI_0, atI_1, atI_2, atI_3, atI_4, atI_5, atI_6, atI_7, atI_last, q_dII, q_dSS, q_dBB, q_dNN, q_dTT, q_dNI, q_dIN, q_dSI, q_dIS, q_dIT, q_dTI, q_dNT, q_dTN, q_dST, q_dTS, q_ds0, q_dsC, q_dsL, q_dsR, q_fI, q_fB, q_fN, q_fT, q_fS, q_f0, q_fC, q_mVar, q_toDv, q_toDt, q_toDo, q_stOv, q_stOt, q_stOo, q_rvOv, q_rvOt, q_rvOo, q_put, q_addI, q_addT, q_addS, q_subI, q_mulI, q_fdivI, q_modI, q_powI, q_shlI, q_shrI, q_addLtt, q_addLot, q_addLoo, q_neg, q_eq, q_ne, q_eqI, q_eqS, q_eqB, q_eqIB, q_eqBI, q_eqT, q_eqSI, q_eqIS, q_eqIT, q_eqTI, q_eqNI, q_eqIN, q_is, q_isnt, q_isNnon, q_isNint, q_isNbl, q_isNstr, q_isNtup, q_isNref, q_lt, q_gt, q_le, q_leT, q_ge, q_in, q_notin, q_trN, q_trB, q_trI, q_trT, q_trS, q_asB, q_subT, q_subR, q_subO, q_subM, q_nodeO, q_nodeR, q_nodeM, q_cutT, q_cutR, q_revT, q_intOf, q_lstR, q_lstM, q_lstO, q_lenT, q_lenS, q_lenR, q_lenO, q_lenM, q_abs, q_intI, q_intB, q_allM, q_anyM, q_sumM, q_tupT, q_tupM, q_tupO, q_tupR, q_listT, q_listM, q_listR, q_listO, q_isi, q_tyN, q_tyB, q_tyI, q_tyS, q_tyT, q_tyR, q_metOk, q_append, q_pop, q_popI, q_setO, q_setR, q_putO, q_walkT, q_walkM, q_walkR, q_walkO, q_setN, q_setM, q_setV, q_setlO, q_rng1, q_rng2, q_settV, q_settT, q_settO, q_opdV, q_opdN, q_addO, q_appL, q_popL, q_sortT, q_sortM, q_sortR, q_sortO, q_sset, q_max, q_min, q_mulT, q_cutO, q_cutM, q_enT, q_enM, q_inIT, q_inTT, q_inIR, q_eqMM, q_extend, q_insert, q_extL, q_insL, q_allO, q_allR, q_anyO, q_anyR, q_sumO, q_sumR, T_17_16]
        refine e16 tk M m names ss h5 hn (by omega) (by omega) (by omega) (by omega) k5.ok fun h6 k6 => ?_
        simp [fn_mkF, semSs, semS, sems, sem, mean, ok_seq, ok_thenN, ok_drop, ok_mRet, ok_mPar, ok_bind', ok_bind, ok_pure, ok_pure', ok_val, ok_tmp, ok_bl, ok_ite, ok_call, ok_lc, ok_lc2, ok_op2, ok_cmp, ok_truth, ok_subO, ok_cutO, ok_revO, ok_negO, ok_intOf, ok_bi, ok_meth, ok_metOk, ok_putO, ok_isi, ok_mVar, ok_toD, ok_stO, ok_rvO, ok_asB, ok_settle, ok_mRng, ok_walkO, ok_enumO, ok_ssetO, ok_put, ok_putT, ok_puts0, ok_putsC, ok_setNode, ok_mDs0, ok_mDsC, ok_mOs0, ok_mOsC, ok_mPart0, ok_mPart1, ok_mIfs0, ok_mIfsC, okM_ok, okM_stuck, okM_exc, okM_ite, Ty.below, atI_nat, atI_0, atI_1, atI_2, atI_3, atI_4, atI_5, atI_6, atI_7, atI_last, q_dII, q_dSS, q_dBB, q_dNN, q_dTT, q_dNI, q_dIN, q_dSI, q_dIS, q_dIT, q_dTI, q_dNT, q_dTN, q_dST, q_dTS, q_ds0, q_dsC, q_dsL, q_dsR, q_fI, q_fB, q_fN, q_fT, q_fS, q_f0, q_fC, q_mVar, q_toDv, q_toDt, q_toDo, q_stOv, q_stOt, q_stOo, q_rvOv, q_rvOt, q_rvOo, q_put, q_addI, q_addT, q_addS, q_subI, q_mulI, q_fdivI, q_modI, q_powI, q_shlI, q_shrI, q_addLtt, q_addLot, q_addLoo, q_neg, q_eq, q_ne, q_eqI, q_eqS, q_eqB, q_eqIB, q_eqBI, q_eqT, q_eqSI, q_eqIS, q_eqIT, q_eqTI, q_eqNI, q_eqIN, q_is, q_isnt, q_isNnon, q_isNint, q_isNbl, q_isNstr, q_isNtup, q_isNref, q_lt, q_gt, q_le, q_leT, q_ge, q_in, q_notin, q_trN, q_trB, q_trI, q_trT, q_trS, q_asB, q_subT, q_subR, q_subO, q_subM, q_nodeO, q_nodeR, q_nodeM, q_cutT, q_cutR, q_revT, q_intOf, q_lstR, q_lstM, q_lstO, q_lenT, q_lenS, q_lenR, q_lenO, q_lenM, q_abs, q_intI, q_intB, q_allM, q_anyM, q_sumM, q_tupT, q_tupM, q_tupO, q_tupR, q_listT, q_listM, q_listR, q_listO, q_isi, q_tyN, q_tyB, q_tyI, q_tyS, q_tyT, q_tyR, q_metOk, q_append, q_pop, q_popI, q_setO, q_setR, q_putO, q_walkT, q_walkM, q_walkR, q_walkO, q_setN, q_setM, q_setV, q_setlO, q_rng1, q_rng2, q_settV, q_settT, q_settO, q_opdV, q_opdN, q_addO, q_appL, q_popL, q_sortT, q_sortM, q_sortR, q_sortO, q_sset, q_max, q_min, q_mulT, q_cutO, q_cutM, q_enT, q_enM, q_inIT, q_inTT, q_inIR, q_eqMM, q_extend, q_insert, q_extL, q_insL, q_allO, q_allR, q_anyO, q_anyR, q_sumO, q_sumR]
        exact (hI _ _).mpr (.inr ⟨_, ne, _, _, _, _, h6, k6.ok, rfl⟩)
      · refine ⟨same_none, ?_⟩
        have tk : TakeSp (jarR l 1 ne) m_8 := e8 l 1 ne
        simp [fn_mkF, semSs, semS, sems, sem, mean, ok_seq, ok_thenN, ok_drop, ok_mRet, ok_mPar, ok_bind', ok_bind, ok_pure, ok_pure', ok_val, ok_tmp, ok_bl, ok_ite, ok_call, ok_lc, ok_lc2, ok_op2, ok_cmp, ok_truth, ok_subO, ok_cutO, ok_revO, ok_negO, ok_intOf, ok_bi, ok_meth, ok_metOk, ok_putO, ok_isi, ok_mVar, ok_toD, ok_stO, ok_rvO, ok_asB, ok_settle, ok_mRng, ok_walkO, ok_enumO, ok_ssetO, ok_put, ok_putT, ok_puts0, ok_putsC, ok_setNode, ok_mDs0, ok_mDsC, ok_mOs0, ok_mOsC, ok_mPart0, ok_mPart1, ok_mIfs0, ok_mIfsC, okM_ok, okM_stuck, okM_exc, okM_ite, Ty.below, atI_nat, atI_0, atI_1, atI_2, atI_3, atI_4, atI_5, atI_6, atI_7, atI_last, q_dII, q_dSS, q_dBB, q_dNN, q_dTT, q_dNI, q_dIN, q_dSI, q_dIS, q_dIT, q_dTI, q_dNT, q_dTN, q_dST, q_dTS, q_ds0, q_dsC, q_dsL, q_dsR, q_fI, q_fB, q_fN, q_fT, q_fS, q_f0, q_fC, q_mVar, q_toDv, q_toDt, q_toDo, q_stOv, q_stOt, q_stOo, q_rvOv, q_rvOt, q_rvOo, q_put, q_addI, q_addT, q_addS, q_subI, q_mulI, q_fdivI, q_modI, q_powI, q_shlI, q_shrI, q_addLtt, q_addLot, q_addLoo, q_neg, q_eq, q_ne, q_eqI, q_eqS, q_eqB, q_eqIB, q_eqBI, q_eqT, q_eqSI, q_eqIS, q_eqIT, q_eqTI, q_eqNI, q_eqIN, q_is, q_isnt, q_isNnon, q_isNint, q_isNbl, q_isNstr, q_isNtup, q_isNref, q_lt, q_gt, q_le, q_leT, q_ge, q_in, q_notin, q_trN, q_trB, q_trI, q_trT, q_trS, q_asB, q_subT, q_subR, q_subO, q_subM, q_nodeO, q_nodeR, q_nodeM, q_cutT, q_cutR, q_revT, q_intOf, q_lstR, q_lstM, q_lstO, q_lenT, q_lenS, q_lenR, q_lenO, q_lenM, q_abs, q_intI, q_intB, q_allM, q_anyM, q_sumM, q_tupT, q_tupM, q_tupO, q_tupR, q_listT, q_listM, q_listR, q_listO, q_isi, q_tyN, q_tyB, q_tyI, q_tyS, q_tyT, q_tyR, q_metOk, q_append, q_pop, q_popI, q_setO, q_setR, q_putO, q_walkT, q_walkM, q_walkR, q_walkO, q_setN, q_setM, q_setV, q_setlO, q_rng1, q_rng2, q_settV, q_settT, q_settO, q_opdV, q_opdN, q_addO, q_appL, q_popL, q_sortT, q_sortM, q_sortR, q_sortO, q_sset, q_max, q_min, q_mulT, q_cutO, q_cutM, q_enT, q_enM, q_inIT, q_inTT, q_inIR, q_eqMM, q_extend, q_insert, q_extL, q_insL, q_allO, q_allR, q_anyO, q_anyR, q_sumO, q_sumR, T_17_8]
        refine tk ok (by omega) (by omega) fun k h2 k0 k1 kk z => ?_
        have kb : 1 ≤ 1 + k ∧ 1 + k ≤ 3 := by omega
        obtain ⟨M, hM⟩ : ∃ M : Nat, (1 + k : Int) = M := ⟨(1 + k).toNat, by omega⟩
        rw [hM] at kb
        obtain ⟨c, hc, c1, c2⟩ : ∃ c : Int, atI [.int 6, .int 6, .int 4] ((M : Int) - 1) = some (.int c) ∧ 0 < c ∧ c ≤ 6 := by
          have : M = 1 ∨ M = 2 ∨ M = 3 := by omega
          rcases this with rfl | rfl | rfl <;> exact ⟨_, rfl, by decide, by decide⟩
        simp [fn_mkF, semSs, semS, sems, sem, mean, ok_seq, ok_thenN, ok_drop, ok_mRet, ok_mPar, ok_bind', ok_bind, ok_pure, ok_pure', ok_val, ok_tmp, ok_bl, ok_ite, ok_call, ok_lc, ok_lc2, ok_op2, ok_cmp, ok_truth, ok_subO, ok_cutO, ok_revO, ok_negO, ok_intOf, ok_bi, ok_meth, ok_metOk, ok_putO, ok_isi, ok_mVar, ok_toD, ok_stO, ok_rvO, ok_asB, ok_settle, ok_mRng, ok_walkO, ok_enumO, ok_ssetO, ok_put, ok_putT, ok_puts0, ok_putsC, ok_setNode, ok_mDs0, ok_mDsC, ok_mOs0, ok_mOsC, ok_mPart0, ok_mPart1, ok_mIfs0, ok_mIfsC, okM_ok, okM_stuck, okM_exc, okM_ite, Ty.below, atI_nat, atI_0, atI_1, atI_2, atI_3, atI_4, atI_5, atI_6, atI_7, atI_last, q_dII, q_dSS, q_dBB, q_dNN, q_dTT, q_dNI, q_dIN, q_dSI, q_dIS, q_dIT, q_dTI, q_dNT, q_dTN, q_dST, q_dTS, q_ds0, q_dsC, q_dsL, q_dsR, q_fI, q_fB, q_fN, q_fT, q_fS, q_f0, q_fC, q_mVar, q_toDv, q_toDt, q_toDo, q_stOv, q_stOt, q_stOo, q_rvOv, q_rvOt, q_rvOo, q_put, q_addI, q_addT, q_addS, q_subI, q_mulI, q_fdivI, q_modI, q_powI, q_shlI, q_shrI, q_addLtt, q_addLot, q_addLoo, q_neg, q_eq, q_ne, q_eqI, q_eqS, q_eqB, q_eqIB, q_eqBI, q_eqT, q_eqSI, q_eqIS, q_eqIT, q_eqTI, q_eqNI, q_eqIN, q_is, q_isnt, q_isNnon, q_isNint, q_isNbl, q_isNstr, q_isNtup, q_isNref, q_lt, q_gt, q_le, q_leT, q_ge, q_in, q_notin, q_trN, q_trB, q_trI, q_trT, q_trS, q_asB, q_subT, q_subR, q_subO, q_subM, q_nodeO, q_nodeR, q_nodeM, q_cutT, q_cutR, q_revT, q_intOf, q_lstR, q_lstM, q_lstO, q_lenT, q_lenS, q_lenR, q_lenO, q_lenM, q_abs, q_intI, q_intB, q_allM, q_anyM, q_sumM, q_tupT, q_tupM, q_tupO, q_tupR, q_listT, q_listM, q_listR, q_listO, q_isi, q_tyN, q_tyB, q_tyI, q_tyS, q_tyT, q_tyR, q_metOk, q_append, q_pop, q_popI, q_setO, q_setR, q_putO, q_walkT, q_walkM, q_walkR, q_walkO, q_setN, q_setM, q_setV, q_setlO, q_rng1, q_rng2, q_settV, q_settT, q_settO, q_opdV, q_opdN, q_addO, q_appL, q_popL, q_sortT, q_sortM, q_sortR, q_sortO, q_sset, q_max, q_min, q_mulT, q_cutO, q_cutM, q_enT, q_enM, q_inIT, q_inTT, q_inIR, q_eqMM, q_extend, q_insert, q_extL, q_insL, q_allO, q_allR, q_anyO, q_anyR, q_sumO, q_sumR, T_17_8, hM, hc]
        refine tk kk.ok (by omega) (by omega) fun m h3 d0 d1 k3 z3 => ?_
        obtain ⟨m, rfl⟩ := Int.eq_ofNat_of_zero_le d0
        simp [fn_mkF, semSs, semS, sems, sem, mean, ok_seq, ok_thenN, ok_drop, ok_mRet, ok_mPar, ok_bind', ok_bind, ok_pure, ok_pure', ok_val, ok_tmp, ok_bl, ok_ite, ok_call, ok_lc, ok_lc2, ok_op2, ok_cmp, ok_truth, ok_subO, ok_cutO, ok_revO, ok_negO, ok_intOf, ok_bi, ok_meth, ok_metOk, ok_putO, ok_isi, ok_mVar, ok_toD, ok_stO, ok_rvO, ok_asB, ok_settle, ok_mRng, ok_walkO, ok_enumO, ok_ssetO, ok_put, ok_putT, ok_puts0, ok_putsC, ok_setNode, ok_mDs0, ok_mDsC, ok_mOs0, ok_mOsC, ok_mPart0, ok_mPart1, ok_mIfs0, ok_mIfsC, okM_ok, okM_stuck, okM_exc, okM_ite, Ty.below, atI_nat, atI_0, atI_1, atI_2, atI_3, atI_4, atI_5, atI_6, atI_7, atI_last, q_dII, q_dSS, q_dBB, q_dNN, q_dTT, q_dNI, q_dIN, q_dSI, q_dIS, q_dIT, q_dTI, q_dNT, q_dTN, q_dST, q_dTS, q_ds0, q_dsC, q_dsL, q_dsR, q_fI, q_fB, q_fN, q_fT, q_fS, q_f0, q_fC, q_mVar, q_toDv, q_toDt, q_toDo, q_stOv, q_stOt, q_stOo, q_rvOv, q_rvOt, q_rvOo, q_put, q_addI, q_addT, q_addS, q_subI, q_mulI, q_fdivI, q_modI, q_powI, q_shlI, q_shrI, q_addLtt, q_addLot, q_addLoo, q_neg, q_eq, q_ne, q_eqI, q_eqS, q_eqB, q_eqIB, q_eqBI, q_eqT, q_eqSI, q_eqIS, q_eqIT, q_eqTI, q_eqNI, q_eqIN, q_is, q_isnt, q_isNnon, q_isNint, q_isNbl, q_isNstr, q_isNtup, q_isNref, q_lt, q_gt, q_le, q_leT, q_ge, q_in, q_notin, q_trN, q_trB, q_trI, q_trT, q_trS, q_asB, q_subT, q_subR, q_subO, q_subM, q_nodeO, q_nodeR, q_nodeM, q_cutT, q_cutR, q_revT, q_intOf, q_lstR, q_lstM, q_lstO, q_lenT, q_lenS, q_lenR, q_lenO, q_lenM, q_abs, q_intI, q_intB, q_allM, q_anyM, q_sumM, q_tupT, q_tupM, q_tupO, q_tupR, q_listT, q_listM, q_listR, q_listO, q_isi, q_tyN, q_tyB, q_tyI, q_tyS, q_tyT, q_tyR, q_metOk, q_append, q_pop, q_popI, q_setO, q_setR, q_putO, q_walkT, q_walkM, q_walkR, q_walkO, q_setN, q_setM, q_setV, q_setlO, q_rng1, q_rng2, q_settV, q_settT, q_settO, q_opdV, q_opdN, q_addO, q_appL, q_popL, q_sortT, q_sortM, q_sortR, q_sortO, q_sset, q_max, q_min, q_mulT, q_cutO, q_cutM, q_enT, q_enM, q_inIT, q_inTT, q_inIR, q_eqMM, q_extend, q_insert, q_extL, q_insL, q_allO, q_allR, q_anyO, q_anyR, q_sumO, q_sumR, T_17_8]
        refine tk k3.ok (by omega) (by omega) fun c5 h4 f0 f1 k4 z4 => ?_
        obtain ⟨C, rfl⟩ := Int.eq_ofNat_of_zero_le f0
        simp [fn_mkF, semSs, semS, sems, sem, mean, ok_seq, ok_thenN, ok_drop, ok_mRet, ok_mPar, ok_bind', ok_bind, ok_pure, ok_pure', ok_val, ok_tmp, ok_bl, ok_ite, ok_call, ok_lc, ok_lc2, ok_op2, ok_cmp, ok_truth, ok_subO, ok_cutO, ok_revO, ok_negO, ok_intOf, ok_bi, ok_meth, ok_metOk, ok_putO, ok_isi, ok_mVar, ok_toD, ok_stO, ok_rvO, ok_asB, ok_settle, ok_mRng, ok_walkO, ok_enumO, ok_ssetO, ok_put, ok_putT, ok_puts0, ok_putsC, ok_setNode, ok_mDs0, ok_mDsC, ok_mOs0, ok_mOsC, ok_mPart0, ok_mPart1, ok_mIfs0, ok_mIfsC, okM_ok, okM_stuck, okM_exc, okM_ite, Ty.below, atI_nat, atI_0, atI_1, atI_2, atI_3, atI_4, atI_5, atI_6, atI_7, atI_last, q_dII, q_dSS, q_dBB, q_dNN, q_dTT, q_dNI, q_dIN, q_dSI, q_dIS, q_dIT, q_dTI, q_dNT, q_dTN, q_dST, q_dTS, q_ds0, q_dsC, q_dsL, q_dsR, q_fI, q_fB, q_fN, q_fT, q_fS, q_f0, q_fC, q_mVar, q_toDv, q_toDt, q_toDo, q_stOv, q_stOt, q_stOo, q_rvOv, q_rvOt, q_rvOo, q_put, q_addI, q_addT, q_addS, q_subI, q_mulI, q_fdivI, q_modI, q_powI, q_shlI, q_shrI, q_addLtt, q_addLot, q_addLoo, q_neg, q_eq, q_ne, q_eqI, q_eqS, q_eqB, q_eqIB, q_eqBI, q_eqT, q_eqSI, q_eqIS, q_eqIT, q_eqTI, q_eqNI, q_eqIN, q_is, q_isnt, q_isNnon, q_isNint, q_isNbl, q_isNstr, q_isNtup, q_isNref, q_lt, q_gt, q_le, q_leT, q_ge, q_in, q_notin, q_trN, q_trB, q_trI, q_trT, q_trS, q_asB, q_subT, q_subR, q_subO, q_subM, q_nodeO, q_nodeR, q_nodeM, q_cutT, q_cutR, q_revT, q_intOf, q_lstR, q_lstM, q_lstO, q_lenT, q_lenS, q_lenR, q_lenO, q_lenM, q_abs, q_intI, q_intB, q_allM, q_anyM, q_sumM, q_tupT, q_tupM, q_tupO, q_tupR, q_listT, q_listM, q_listR, q_listO, q_isi, q_tyN, q_tyB, q_tyI, q_tyS, q_tyT, q_tyR, q_metOk, q_append, q_pop, q_popI, q_setO, q_setR, q_putO, q_walkT, q_walkM, q_walkR, q_walkO, q_setN, q_setM, q_setV, q_setlO, q_rng1, q_rng2, q_settV, q_settT, q_settO, q_opdV, q_opdN, q_addO, q_appL, q_popL, q_sortT, q_sortM, q_sortR, q_sortO, q_sset, q_max, q_min, q_mulT, q_cutO, q_cutM, q_enT, q_enM, q_inIT, q_inTT, q_inIR, q_eqMM, q_extend, q_insert, q_extL, q_insL, q_allO, q_allR, q_anyO, q_anyR, q_sumO, q_sumR, T_17_11]
        refine e11 tk M C 4 h4 (by omega) (by omega) (by omega) (by omega) k4.ok fun names ss h5 hn hs hso k5 => ?_
        simp [fn_mkF, semSs, semS, sems, sem, mean, ok_seq, ok_thenN, ok_drop, ok_mRet, ok_mPar, ok_bind', ok_bind, ok_pure, ok_pure', ok_val, ok_tmp, ok_bl, ok_ite, ok_call, ok_lc, ok_lc2, ok_op2, ok_cmp, ok_truth, ok_subO, ok_cutO, ok_revO, ok_negO, ok_intOf, ok_bi, ok_meth, ok_metOk, ok_putO, ok_isi, ok_mVar, ok_toD, ok_stO, ok_rvO, ok_asB, ok_settle, ok_mRng, ok_walkO, ok_enumO, ok_ssetO, ok_put, ok_putT, ok_puts0, ok_putsC, ok_setNode, ok_mDs0, ok_mDsC, ok_mOs0, ok_mOsC, ok_mPart0, ok_mPart1, ok_mIfs0, ok_mIfsC, okM_ok, okM_stuck, okM_exc, okM_ite, Ty.below, atI_nat, atI_0, atI_1, atI_2, atI_3, atI_4, atI_5, atI_6, atI_7, atI_last, q_dII, q_dSS, q_dBB, q_dNN, q_dTT, q_dNI, q_dIN, q_dSI, q_dIS, q_dIT, q_dTI, q_dNT, q_dTN, q_dST, q_dTS, q_ds0, q_dsC, q_dsL, q_dsR, q_fI, q_fB, q_fN, q_fT, q_fS, q_f0, q_fC, q_mVar, q_toDv, q_toDt, q_toDo, q_stOv, q_stOt, q_stOo, q_rvOv, q_rvOt, q_rvOo, q_put, q_addI, q_addT, q_addS, q_subI, q_mulI, q_fdivI, q_modI, q_powI, q_shlI, q_shrI, q_addLtt, q_addLot, q_addLoo, q_neg, q_eq, q_ne, q_eqI, q_eqS, q_eqB, q_eqIB, q_eqBI, q_eqT, q_eqSI, q_eqIS, q_eqIT, q_eqTI, q_eqNI, q_eqIN, q_is, q_isnt, q_isNnon, q_isNint, q_isNbl, q_isNstr, q_isNtup, q_isNref, q_lt, q_gt, q_le, q_leT, q_ge, q_in, q_notin, q_trN, q_trB, q_trI, q_trT, q_trS, q_asB, q_subT, q_subR, q_subO, q_subM, q_nodeO, q_nodeR, q_nodeM, q_cutT, q_cutR, q_revT, q_intOf, q_lstR, q_lstM, q_lstO, q_lenT, q_lenS, q_lenR, q_lenO, q_lenM, q_abs, q_intI, q_intB, q_allM, q_anyM, q_sumM, q_tupT, q_tupM, q_tupO, q_tupR, q_listT, q_listM, q_listR, q_listO, q_isi, q_tyN, q_tyB, q_tyI, q_tyS, q_tyT, q_tyR, q_metOk, q_append, q_pop, q_popI, q_setO, q_setR, q_putO, q_walkT, q_walkM, q_walkR, q_walkO, q_setN, q_setM, q_setV, q_setlO, q_rng1, q_rng2, q_settV, q_settT, q_settO, q_opdV, q_opdN, q_addO, q_appL, q_popL, q_sortT, q_sortM, q_sortR, q_sortO, q_sset, q_max, q_min, q_mulT, q_cutO, q_cutM, q_enT, q_enM, q_inIT, q_inTT, q_inIR, q_eqMM, q_extend, q_insert, q_extL, q_insL, q_allO, q_allR, q_anyO, q_anyR, q_sumO, q_sumR, T_17_16]
        refine e16 tk M m names ss h5 hn (by omega) (by omega) (by omega) (by omega) k5.ok fun h6 k6 => ?_
        simp [fn_mkF, semSs, semS, sems, sem, mean, ok_seq, ok_thenN, ok_drop, ok_mRet, ok_mPar, ok_bind', ok_bind, ok_pure, ok_pure', ok_val, ok_tmp, ok_bl, ok_ite, ok_call, ok_lc, ok_lc2, ok_op2, ok_cmp, ok_truth, ok_subO, ok_cutO, ok_revO, ok_negO, ok_intOf, ok_bi, ok_meth, ok_metOk, ok_putO, ok_isi, ok_mVar, ok_toD, ok_stO, ok_rvO, ok_asB, ok_settle, ok_mRng, ok_walkO, ok_enumO, ok_ssetO, ok_put, ok_putT, ok_puts0, ok_putsC, ok_setNode, ok_mDs0, ok_mDsC, ok_mOs0, ok_mOsC, ok_mPart0, ok_mPart1, ok_mIfs0, ok_mIfsC, okM_ok, okM_stuck, okM_exc, okM_ite, Ty.below, atI_nat, atI_0, atI_1, atI_2, atI_3, atI_4, atI_5, atI_6, atI_7, atI_last, q_dII, q_dSS, q_dBB, q_dNN, q_dTT, q_dNI, q_dIN, q_dSI, q_dIS, q_dIT, q_dTI, q_dNT, q_dTN, q_dST, q_dTS, q_ds0, q_dsC, q_dsL, q_dsR, q_fI, q_fB, q_fN, q_fT, q_fS, q_f0, q_fC, q_mVar, q_toDv, q_toDt, q_toDo, q_stOv, q_stOt, q_stOo, q_rvOv, q_rvOt, q_rvOo, q_put, q_addI, q_addT, q_addS, q_subI, q_mulI, q_fdivI, q_modI, q_powI, q_shlI, q_shrI, q_addLtt, q_addLot, q_addLoo, q_neg, q_eq, q_ne, q_eqI, q_eqS, q_eqB, q_eqIB, q_eqBI, q_eqT, q_eqSI, q_eqIS, q_eqIT, q_eqTI, q_eqNI, q_eqIN, q_is, q_isnt, q_isNnon, q_isNint, q_isNbl, q_isNstr, q_isNtup, q_isNref, q_lt, q_gt, q_le, q_leT, q_ge, q_in, q_notin, q_trN, q_trB, q_trI, q_trT, q_trS, q_asB, q_subT, q_subR, q_subO, q_subM, q_nodeO, q_nodeR, q_nodeM, q_cutT, q_cutR, q_revT, q_intOf, q_lstR, q_lstM, q_lstO, q_lenT, q_lenS, q_lenR, q_lenO, q_lenM, q_abs, q_intI, q_intB, q_allM, q_anyM, q_sumM, q_tupT, q_tupM, q_tupO, q_tupR, q_listT, q_listM, q_listR, q_listO, q_isi, q_tyN, q_tyB, q_tyI, q_tyS, q_tyT, q_tyR, q_metOk, q_append, q_pop, q_popI, q_setO, q_setR, q_putO, q_walkT, q_walkM, q_walkR, q_walkO, q_setN, q_setM, q_setV, q_setlO, q_rng1, q_rng2, q_settV, q_settT, q_settO, q_opdV, q_opdN, q_addO, q_appL, q_popL, q_sortT, q_sortM, q_sortR, q_sortO, q_sset, q_max, q_min, q_mulT, q_cutO, q_cutM, q_enT, q_enM, q_inIT, q_inTT, q_inIR, q_eqMM, q_extend, q_insert, q_extL, q_insL, q_allO, q_allR, q_anyO, q_anyR, q_sumO, q_sumR]
        exact (hI _ _).mpr (.inr ⟨_, ne, _, _, _, _, h6, k6.ok, rfl⟩)
    · intro s hs
      rcases (hI _ _).mp hs with ⟨hds, x2, x3, x4, x5, hp, e1, rfl⟩ | ⟨l, ne, x2, x3, x4, x5, hp, ok, rfl⟩
      · simp [upD] at hds
      · refine ⟨same_none, ?_⟩
        have tk : TakeSp (jarR l 1 ne) m_8 := e8 l 1 ne
        simp [fn_mkF, semSs, semS, sems, sem, mean, ok_seq, ok_thenN, ok_drop, ok_mRet, ok_mPar, ok_bind', ok_bind, ok_pure, ok_pure', ok_val, ok_tmp, ok_bl, ok_ite, ok_call, ok_lc, ok_lc2, ok_op2, ok_cmp, ok_truth, ok_subO, ok_cutO, ok_revO, ok_negO, ok_intOf, ok_bi, ok_meth, ok_metOk, ok_putO, ok_isi, ok_mVar, ok_toD, ok_stO, ok_rvO, ok_asB, ok_settle, ok_mRng, ok_walkO, ok_enumO, ok_ssetO, ok_put, ok_putT, ok_puts0, ok_putsC, ok_setNode, ok_mDs0, ok_mDsC, ok_mOs0, ok_mOsC, ok_mPart0, ok_mPart1, ok_mIfs0, ok_mIfsC, okM_ok, okM_stuck, okM_exc, okM_ite, Ty.below, atI_nat, atI_0, atI_1, atI_2, atI_3, atI_4, atI_5, atI_6, atI_7, atI_last, q_dII, q_dSS, q_dBB, q_dNN, q_dTT, q_dNI, q_dIN, q_dSI, q_dIS, q_dIT, q_dTI, q_dNT, q_dTN, q_dST, q_dTS, q_ds0, q_dsC, q_dsL, q_dsR, q_fI, q_fB, q_fN, q_fT, q_fS, q_f0, q_fC, q_mVar, q_toDv, q_toDt, q_toDo, q_stOv, q_stOt, q_stOo, q_rvOv, q_rvOt, q_rvOo, q_put, q_addI, q_addT, q_addS, q_subI, q_mulI, q_fdivI, q_modI, q_powI, q_shlI, q_shrI, q_addLtt, q_addLot, q_addLoo, q_neg, q_eq, q_ne, q_eqI, q_eqS, q_eqB, q_eqIB, q_eqBI, q_eqT, q_eqSI, q_eqIS, q_eqIT, q_eqTI, q_eqNI, q_eqIN, q_is, q_isnt, q_isNnon, q_isNint, q_isNbl, q_isNstr, q_isNtup, q_isNref, q_lt, q_gt, q_le, q_leT, q_ge, q_in, q_notin, q_trN, q_trB, q_trI, q_trT, q_trS, q_asB, q_subT, q_subR, q_subO, q_subM, q_nodeO, q_nodeR, q_nodeM, q_cutT, q_cutR, q_revT, q_intOf, q_lstR, q_lstM, q_lstO, q_lenT, q_lenS, q_lenR, q_lenO, q_lenM, q_abs, q_intI, q_intB, q_allM, q_anyM, q_sumM, q_tupT, q_tupM, q_tupO, q_tupR, q_listT, q_listM, q_listR, q_listO, q_isi, q_tyN, q_tyB, q_tyI, q_tyS, q_tyT, q_tyR, q_metOk, q_append, q_pop, q_popI, q_setO, q_setR, q_putO, q_walkT, q_walkM, q_walkR, q_walkO, q_setN, q_setM, q_setV, q_setlO, q_rng1, q_rng2, q_settV, q_settT, q_settO, q_opdV, q_opdN, q_addO, q_appL, q_popL, q_sortT, q_sortM, q_sortR, q_sortO, q_sset, q_max, q_min, q_mulT, q_cutO, q_cutM, q_enT, q_enM, q_inIT, q_inTT, q_inIR, q_eqMM, q_extend, q_insert, q_extL, q_insL, q_allO, q_allR, q_anyO, q_anyR, q_sumO, q_sumR, T_17_8]
        refine tk ok (by omega) (by omega) fun k h2 k0 k1 kk z => ?_
        obtain ⟨C, hC⟩ : ∃ C : Nat, (1 + k : Int) = C := ⟨(1 + k).toNat, by omega⟩
        simp [fn_mkF, semSs, semS, sems, sem, mean, ok_seq, ok_thenN, ok_drop, ok_mRet, ok_mPar, ok_bind', ok_bind, ok_pure, ok_pure', ok_val, ok_tmp, ok_bl, ok_ite, ok_call, ok_lc, ok_lc2, ok_op2, ok_cmp, ok_truth, ok_subO, ok_cutO, ok_revO, ok_negO, ok_intOf, ok_bi, ok_meth, ok_metOk, ok_putO, ok_isi, ok_mVar, ok_toD, ok_stO, ok_rvO, ok_asB, ok_settle, ok_mRng, ok_walkO, ok_enumO, ok_ssetO, ok_put, ok_putT, ok_puts0, ok_putsC, ok_setNode, ok_mDs0, ok_mDsC, ok_mOs0, ok_mOsC, ok_mPart0, ok_mPart1, ok_mIfs0, ok_mIfsC, okM_ok, okM_stuck, okM_exc, okM_ite, Ty.below, atI_nat, atI_0, atI_1, atI_2, atI_3, atI_4, atI_5, atI_6, atI_7, atI_last, q_dII, q_dSS, q_dBB, q_dNN, q_dTT, q_dNI, q_dIN, q_dSI, q_dIS, q_dIT, q_dTI, q_dNT, q_dTN, q_dST, q_dTS, q_ds0, q_dsC, q_dsL, q_dsR, q_fI, q_fB, q_fN, q_fT, q_fS, q_f0, q_fC, q_mVar, q_toDv, q_toDt, q_toDo, q_stOv, q_stOt, q_stOo, q_rvOv, q_rvOt, q_rvOo, q_put, q_addI, q_addT, q_addS, q_subI, q_mulI, q_fdivI, q_modI, q_powI, q_shlI, q_shrI, q_addLtt, q_addLot, q_addLoo, q_neg, q_eq, q_ne, q_eqI, q_eqS, q_eqB, q_eqIB, q_eqBI, q_eqT, q_eqSI, q_eqIS, q_eqIT, q_eqTI, q_eqNI, q_eqIN, q_is, q_isnt, q_isNnon, q_isNint, q_isNbl, q_isNstr, q_isNtup, q_isNref, q_lt, q_gt, q_le, q_leT, q_ge, q_in, q_notin, q_trN, q_trB, q_trI, q_trT, q_trS, q_asB, q_subT, q_subR, q_subO, q_subM, q_nodeO, q_nodeR, q_nodeM, q_cutT, q_cutR, q_revT, q_intOf, q_lstR, q_lstM, q_lstO, q_lenT, q_lenS, q_lenR, q_lenO, q_lenM, q_abs, q_intI, q_intB, q_allM, q_anyM, q_sumM, q_tupT, q_tupM, q_tupO, q_tupR, q_listT, q_listM, q_listR, q_listO, q_isi, q_tyN, q_tyB, q_tyI, q_tyS, q_tyT, q_tyR, q_metOk, q_append, q_pop, q_popI, q_setO, q_setR, q_putO, q_walkT, q_walkM, q_walkR, q_walkO, q_setN, q_setM, q_setV, q_setlO, q_rng1, q_rng2, q_settV, q_settT, q_settO, q_opdV, q_opdN, q_addO, q_appL, q_popL, q_sortT, q_sortM, q_sortR, q_sortO, q_sset, q_max, q_min, q_mulT, q_cutO, q_cutM, q_enT, q_enM, q_inIT, q_inTT, q_inIR, q_eqMM, q_extend, q_insert, q_extL, q_insL, q_allO, q_allR, q_anyO, q_anyR, q_sumO, q_sumR, T_17_11, hC]
        refine e11 tk 2 C 1 h2 (by omega) (by omega) (by omega) (by omega) kk.ok fun names ss h5 hn hs hso k5 => ?_
        simp [fn_mkF, semSs, semS, sems, sem, mean, ok_seq, ok_thenN, ok_drop, ok_mRet, ok_mPar, ok_bind', ok_bind, ok_pure, ok_pure', ok_val, ok_tmp, ok_bl, ok_ite, ok_call, ok_lc, ok_lc2, ok_op2, ok_cmp, ok_truth, ok_subO, ok_cutO, ok_revO, ok_negO, ok_intOf, ok_bi, ok_meth, ok_metOk, ok_putO, ok_isi, ok_mVar, ok_toD, ok_stO, ok_rvO, ok_asB, ok_settle, ok_mRng, ok_walkO, ok_enumO, ok_ssetO, ok_put, ok_putT, ok_puts0, ok_putsC, ok_setNode, ok_mDs0, ok_mDsC, ok_mOs0, ok_mOsC, ok_mPart0, ok_mPart1, ok_mIfs0, ok_mIfsC, okM_ok, okM_stuck, okM_exc, okM_ite, Ty.below, atI_nat, atI_0, atI_1, atI_2, atI_3, atI_4, atI_5, atI_6, atI_7, atI_last, q_dII, q_dSS, q_dBB, q_dNN, q_dTT, q_dNI, q_dIN, q_dSI, q_dIS, q_dIT, q_dTI, q_dNT, q_dTN, q_dST, q_dTS, q_ds0, q_dsC, q_dsL, q_dsR, q_fI, q_fB, q_fN, q_fT, q_fS, q_f0, q_fC, q_mVar, q_toDv, q_toDt, q_toDo, q_stOv, q_stOt, q_stOo, q_rvOv, q_rvOt, q_rvOo, q_put, q_addI, q_addT, q_addS, q_subI, q_mulI, q_fdivI, q_modI, q_powI, q_shlI, q_shrI, q_addLtt, q_addLot, q_addLoo, q_neg, q_eq, q_ne, q_eqI, q_eqS, q_eqB, q_eqIB, q_eqBI, q_eqT, q_eqSI, q_eqIS, q_eqIT, q_eqTI, q_eqNI, q_eqIN, q_is, q_isnt, q_isNnon, q_isNint, q_isNbl, q_isNstr, q_isNtup, q_isNref, q_lt, q_gt, q_le, q_leT, q_ge, q_in, q_notin, q_trN, q_trB, q_trI, q_trT, q_trS, q_asB, q_subT, q_subR, q_subO, q_subM, q_nodeO, q_nodeR, q_nodeM, q_cutT, q_cutR, q_revT, q_intOf, q_lstR, q_lstM, q_lstO, q_lenT, q_lenS, q_lenR, q_lenO, q_lenM, q_abs, q_intI, q_intB, q_allM, q_anyM, q_sumM, q_tupT, q_tupM, q_tupO, q_tupR, q_listT, q_listM, q_listR, q_listO, q_isi, q_tyN, q_tyB, q_tyI, q_tyS, q_tyT, q_tyR, q_metOk, q_append, q_pop, q_popI, q_setO, q_setR, q_putO, q_walkT, q_walkM, q_walkR, q_walkO, q_setN, q_setM, q_setV, q_setlO, q_rng1, q_rng2, q_settV, q_settT, q_settO, q_opdV, q_opdN, q_addO, q_appL, q_popL, q_sortT, q_sortM, q_sortR, q_sortO, q_sset, q_max, q_min, q_mulT, q_cutO, q_cutM, q_enT, q_enM, q_inIT, q_inTT, q_inIR, q_eqMM, q_extend, q_insert, q_extL, q_insL, q_allO, q_allR, q_anyO, q_anyR, q_sumO, q_sumR, T_17_16]
        refine e16 tk 2 5 names ss h5 hn (by omega) (by omega) (by omega) (by omega) k5.ok fun h6 k6 => ?_
        simp [fn_mkF, semSs, semS, sems, sem, mean, ok_seq, ok_thenN, ok_drop, ok_mRet, ok_mPar, ok_bind', ok_bind, ok_pure, ok_pure', ok_val, ok_tmp, ok_bl, ok_ite, ok_call, ok_lc, ok_lc2, ok_op2, ok_cmp, ok_truth, ok_subO, ok_cutO, ok_revO, ok_negO, ok_intOf, ok_bi, ok_meth, ok_metOk, ok_putO, ok_isi, ok_mVar, ok_toD, ok_stO, ok_rvO, ok_asB, ok_settle, ok_mRng, ok_walkO, ok_enumO, ok_ssetO, ok_put, ok_putT, ok_puts0, ok_putsC, ok_setNode, ok_mDs0, ok_mDsC, ok_mOs0, ok_mOsC, ok_mPart0, ok_mPart1, ok_mIfs0, ok_mIfsC, okM_ok, okM_stuck, okM_exc, okM_ite, Ty.below, atI_nat, atI_0, atI_1, atI_2, atI_3, atI_4, atI_5, atI_6, atI_7, atI_last, q_dII, q_dSS, q_dBB, q_dNN, q_dTT, q_dNI, q_dIN, q_dSI, q_dIS, q_dIT, q_dTI, q_dNT, q_dTN, q_dST, q_dTS, q_ds0, q_dsC, q_dsL, q_dsR, q_fI, q_fB, q_fN, q_fT, q_fS, q_f0, q_fC, q_mVar, q_toDv, q_toDt, q_toDo, q_stOv, q_stOt, q_stOo, q_rvOv, q_rvOt, q_rvOo, q_put, q_addI, q_addT, q_addS, q_subI, q_mulI, q_fdivI, q_modI, q_powI, q_shlI, q_shrI, q_addLtt, q_addLot, q_addLoo, q_neg, q_eq, q_ne, q_eqI, q_eqS, q_eqB, q_eqIB, q_eqBI, q_eqT, q_eqSI, q_eqIS, q_eqIT, q_eqTI, q_eqNI, q_eqIN, q_is, q_isnt, q_isNnon, q_isNint, q_isNbl, q_isNstr, q_isNtup, q_isNref, q_lt, q_gt, q_le, q_leT, q_ge, q_in, q_notin, q_trN, q_trB, q_trI, q_trT, q_trS, q_asB, q_subT, q_subR, q_subO, q_subM, q_nodeO, q_nodeR, q_nodeM, q_cutT, q_cutR, q_revT, q_intOf, q_lstR, q_lstM, q_lstO, q_lenT, q_lenS, q_lenR, q_lenO, q_lenM, q_abs, q_intI, q_intB, q_allM, q_anyM, q_sumM, q_tupT, q_tupM, q_tupO, q_tupR, q_listT, q_listM, q_listR, q_listO, q_isi, q_tyN, q_tyB, q_tyI, q_tyS, q_tyT, q_tyR, q_metOk, q_append, q_pop, q_popI, q_setO, q_setR, q_putO, q_walkT, q_walkM, q_walkR, q_walkO, q_setN, q_setM, q_setV, q_setlO, q_rng1, q_rng2, q_settV, q_settT, q_settO, q_opdV, q_opdN, q_addO, q_appL, q_popL, q_sortT, q_sortM, q_sortR, q_sortO, q_sset, q_max, q_min, q_mulT, q_cutO, q_cutM, q_enT, q_enM, q_inIT, q_inTT, q_inIR, q_eqMM, q_extend, q_insert, q_extL, q_insL, q_allO, q_allR, q_anyO, q_anyR, q_sumO, q_sumR, T_17_8]
        refine tk k6.ok (by omega) (by omega) fun c h7 f0 f1 k7 z7 => ?_
        by_cases hc : c < 12
        · simp [fn_mkF, semSs, semS, sems, sem, mean, ok_seq, ok_thenN, ok_drop, ok_mRet, ok_mPar, ok_bind', ok_bind, ok_pure, ok_pure', ok_val, ok_tmp, ok_bl, ok_ite, ok_call, ok_lc, ok_lc2, ok_op2, ok_cmp, ok_truth, ok_subO, ok_cutO, ok_revO, ok_negO, ok_intOf, ok_bi, ok_meth, ok_metOk, ok_putO, ok_isi, ok_mVar, ok_toD, ok_stO, ok_rvO, ok_asB, ok_settle, ok_mRng, ok_walkO, ok_enumO, ok_ssetO, ok_put, ok_putT, ok_puts0, ok_putsC, ok_setNode, ok_mDs0, ok_mDsC, ok_mOs0, ok_mOsC, ok_mPart0, ok_mPart1, ok_mIfs0, ok_mIfsC, okM_ok, okM_stuck, okM_exc, okM_ite, Ty.below, atI_nat, atI_0, atI_1, atI_2, atI_3, atI_4, atI_5, atI_6, atI_7, atI_last, q_dII, q_dSS, q_dBB, q_dNN, q_dTT, q_dNI, q_dIN, q_dSI, q_dIS, q_dIT, q_dTI, q_dNT, q_dTN, q_dST, q_dTS, q_ds0, q_dsC, q_dsL, q_dsR, q_fI, q_fB, q_fN, q_fT, q_fS, q_f0, q_fC, q_mVar, q_toDv, q_toDt, q_toDo, q_stOv, q_stOt, q_stOo, q_rvOv, q_rvOt, q_rvOo, q_put, q_addI, q_addT, q_addS, q_subI, q_mulI, q_fdivI, q_modI, q_powI, q_shlI, q_shrI, q_addLtt, q_addLot, q_addLoo, q_neg, q_eq, q_ne, q_eqI, q_eqS, q_eqB, q_eqIB, q_eqBI, q_eqT, q_eqSI, q_eqIS, q_eqIT, q_eqTI, q_eqNI, q_eqIN, q_is, q_isnt, q_isNnon, q_isNint, q_isNbl, q_isNstr, q_isNtup, q_isNref, q_lt, q_gt, q_le, q_leT, q_ge, q_in, q_notin, q_trN, q_trB, q_trI, q_trT, q_trS, q_asB, q_subT, q_subR, q_subO, q_subM, q_nodeO, q_nodeR, q_nodeM, q_cutT, q_cutR, q_revT, q_intOf, q_lstR, q_lstM, q_lstO, q_lenT, q_lenS, q_lenR, q_lenO, q_lenM, q_abs, q_intI, q_intB, q_allM, q_anyM, q_sumM, q_tupT, q_tupM, q_tupO, q_tupR, q_listT, q_listM, q_listR, q_listO, q_isi, q_tyN, q_tyB, q_tyI, q_tyS, q_tyT, q_tyR, q_metOk, q_append, q_pop, q_popI, q_setO, q_setR, q_putO, q_walkT, q_walkM, q_walkR, q_walkO, q_setN, q_setM, q_setV, q_setlO, q_rng1, q_rng2, q_settV, q_settT, q_settO, q_opdV, q_opdN, q_addO, q_appL, q_popL, q_sortT, q_sortM, q_sortR, q_sortO, q_sset, q_max, q_min, q_mulT, q_cutO, q_cutM, q_enT, q_enM, q_inIT, q_inTT, q_inIR, q_eqMM, q_extend, q_insert, q_extL, q_insL, q_allO, q_allR, q_anyO, q_anyR, q_sumO, q_sumR, hc]
          exact (hQ _ _).mpr rfl
        · simp [fn_mkF, semSs, semS, sems, sem, mean, ok_seq, ok_thenN, ok_drop, ok_mRet, ok_mPar, ok_bind', ok_bind, ok_pure, ok_pure', ok_val, ok_tmp, ok_bl, ok_ite, ok_call, ok_lc, ok_lc2, ok_op2, ok_cmp, ok_truth, ok_subO, ok_cutO, ok_revO, ok_negO, ok_intOf, ok_bi, ok_meth, ok_metOk, ok_putO, ok_isi, ok_mVar, ok_toD, ok_stO, ok_rvO, ok_asB, ok_settle, ok_mRng, ok_walkO, ok_enumO, ok_ssetO, ok_put, ok_putT, ok_puts0, ok_putsC, ok_setNode, ok_mDs0, ok_mDsC, ok_mOs0, ok_mOsC, ok_mPart0, ok_mPart1, ok_mIfs0, ok_mIfsC, okM_ok, okM_stuck, okM_exc, okM_ite, Ty.below, atI_nat, atI_0, atI_1, atI_2, atI_3, atI_4, atI_5, atI_6, atI_7, atI_last, q_dII, q_dSS, q_dBB, q_dNN, q_dTT, q_dNI, q_dIN, q_dSI, q_dIS, q_dIT, q_dTI, q_dNT, q_dTN, q_dST, q_dTS, q_ds0, q_dsC, q_dsL, q_dsR, q_fI, q_fB, q_fN, q_fT, q_fS, q_f0, q_fC, q_mVar, q_toDv, q_toDt, q_toDo, q_stOv, q_stOt, q_stOo, q_rvOv, q_rvOt, q_rvOo, q_put, q_addI, q_addT, q_addS, q_subI, q_mulI, q_fdivI, q_modI, q_powI, q_shlI, q_shrI, q_addLtt, q_addLot, q_addLoo, q_neg, q_eq, q_ne, q_eqI, q_eqS, q_eqB, q_eqIB, q_eqBI, q_eqT, q_eqSI, q_eqIS, q_eqIT, q_eqTI, q_eqNI, q_eqIN, q_is, q_isnt, q_isNnon, q_isNint, q_isNbl, q_isNstr, q_isNtup, q_isNref, q_lt, q_gt, q_le, q_leT, q_ge, q_in, q_notin, q_trN, q_trB, q_trI, q_trT, q_trS, q_asB, q_subT, q_subR, q_subO, q_subM, q_nodeO, q_nodeR, q_nodeM, q_cutT, q_cutR, q_revT, q_intOf, q_lstR, q_lstM, q_lstO, q_lenT, q_lenS, q_lenR, q_lenO, q_lenM, q_abs, q_intI, q_intB, q_allM, q_anyM, q_sumM, q_tupT, q_tupM, q_tupO, q_tupR, q_listT, q_listM, q_listR, q_listO, q_isi, q_tyN, q_tyB, q_tyI, q_tyS, q_tyT, q_tyR, q_metOk, q_append, q_pop, q_popI, q_setO, q_setR, q_putO, q_walkT, q_walkM, q_walkR, q_walkO, q_setN, q_setM, q_setV, q_setlO, q_rng1, q_rng2, q_settV, q_settT, q_settO, q_opdV, q_opdN, q_addO, q_appL, q_popL, q_sortT, q_sortM, q_sortR, q_sortO, q_sset, q_max, q_min, q_mulT, q_cutO, q_cutM, q_enT, q_enM, q_inIT, q_inTT, q_inIR, q_eqMM, q_extend, q_insert, q_extL, q_insL, q_allO, q_allR, q_anyO, q_anyR, q_sumO, q_sumR, hc, T_17_8]
          refine tk k7.ok (by omega) (by omega) fun k2 h8 g0 g1 k8 z8 => ?_
          obtain ⟨C2, hC2⟩ : ∃ C : Nat, (1 + k2 : Int) = C := ⟨(1 + k2).toNat, by omega⟩
          simp [fn_mkF, semSs, semS, sems, sem, mean, ok_seq, ok_thenN, ok_drop, ok_mRet, ok_mPar, ok_bind', ok_bind, ok_pure, ok_pure', ok_val, ok_tmp, ok_bl, ok_ite, ok_call, ok_lc, ok_lc2, ok_op2, ok_cmp, ok_truth, ok_subO, ok_cutO, ok_revO, ok_negO, ok_intOf, ok_bi, ok_meth, ok_metOk, ok_putO, ok_isi, ok_mVar, ok_toD, ok_stO, ok_rvO, ok_asB, ok_settle, ok_mRng, ok_walkO, ok_enumO, ok_ssetO, ok_put, ok_putT, ok_puts0, ok_putsC, ok_setNode, ok_mDs0, ok_mDsC, ok_mOs0, ok_mOsC, ok_mPart0, ok_mPart1, ok_mIfs0, ok_mIfsC, okM_ok, okM_stuck, okM_exc, okM_ite, Ty.below, atI_nat, atI_0, atI_1, atI_2, atI_3, atI_4, atI_5, atI_6, atI_7, atI_last, q_dII, q_dSS, q_dBB, q_dNN, q_dTT, q_dNI, q_dIN, q_dSI, q_dIS, q_dIT, q_dTI, q_dNT, q_dTN, q_dST, q_dTS, q_ds0, q_dsC, q_dsL, q_dsR, q_fI, q_fB, q_fN, q_fT, q_fS, q_f0, q_fC, q_mVar, q_toDv, q_toDt, q_toDo, q_stOv, q_stOt, q_stOo, q_rvOv, q_rvOt, q_rvOo, q_put, q_addI, q_addT, q_addS, q_subI, q_mulI, q_fdivI, q_modI, q_powI, q_shlI, q_shrI, q_addLtt, q_addLot, q_addLoo, q_neg, q_eq, q_ne, q_eqI, q_eqS, q_eqB, q_eqIB, q_eqBI, q_eqT, q_eqSI, q_eqIS, q_eqIT, q_eqTI, q_eqNI, q_eqIN, q_is, q_isnt, q_isNnon, q_isNint, q_isNbl, q_isNstr, q_isNtup, q_isNref, q_lt, q_gt, q_le, q_leT, q_ge, q_in, q_notin, q_trN, q_trB, q_trI, q_trT, q_trS, q_asB, q_subT, q_subR, q_subO, q_subM, q_nodeO, q_nodeR, q_nodeM, q_cutT, q_cutR, q_revT, q_intOf, q_lstR, q_lstM, q_lstO, q_lenT, q_lenS, q_lenR, q_lenO, q_lenM, q_abs, q_intI, q_intB, q_allM, q_anyM, q_sumM, q_tupT, q_tupM, q_tupO, q_tupR, q_listT, q_listM, q_listR, q_listO, q_isi, q_tyN, q_tyB, q_tyI, q_tyS, q_tyT, q_tyR, q_metOk, q_append, q_pop, q_popI, q_setO, q_setR, q_putO, q_walkT, q_walkM, q_walkR, q_walkO, q_setN, q_setM, q_setV, q_setlO, q_rng1, q_rng2, q_settV, q_settT, q_settO, q_opdV, q_opdN, q_addO, q_appL, q_popL, q_sortT, q_sortM, q_sortR, q_sortO, q_sset, q_max, q_min, q_mulT, q_cutO, q_cutM, q_enT, q_enM, q_inIT, q_inTT, q_inIR, q_eqMM, q_extend, q_insert, q_extL, q_insL, q_allO, q_allR, q_anyO, q_anyR, q_sumO, q_sumR, T_17_11, hC2]
          refine e11 tk 3 C2 2 h8 (by omega) (by omega) (by omega) (by omega) k8.ok fun names ss h9 hn hs hso k9 => ?_
          simp [fn_mkF, semSs, semS, sems, sem, mean, ok_seq, ok_thenN, ok_drop, ok_mRet, ok_mPar, ok_bind', ok_bind, ok_pure, ok_pure', ok_val, ok_tmp, ok_bl, ok_ite, ok_call, ok_lc, ok_lc2, ok_op2, ok_cmp, ok_truth, ok_subO, ok_cutO, ok_revO, ok_negO, ok_intOf, ok_bi, ok_meth, ok_metOk, ok_putO, ok_isi, ok_mVar, ok_toD, ok_stO, ok_rvO, ok_asB, ok_settle, ok_mRng, ok_walkO, ok_enumO, ok_ssetO, ok_put, ok_putT, ok_puts0, ok_putsC, ok_setNode, ok_mDs0, ok_mDsC, ok_mOs0, ok_mOsC, ok_mPart0, ok_mPart1, ok_mIfs0, ok_mIfsC, okM_ok, okM_stuck, okM_exc, okM_ite, Ty.below, atI_nat, atI_0, atI_1, atI_2, atI_3, atI_4, atI_5, atI_6, atI_7, atI_last, q_dII, q_dSS, q_dBB, q_dNN, q_dTT, q_dNI, q_dIN, q_dSI, q_dIS, q_dIT, q_dTI, q_dNT, q_dTN, q_dST, q_dTS, q_ds0, q_dsC, q_dsL, q_dsR, q_fI, q_fB, q_fN, q_fT, q_fS, q_f0, q_fC, q_mVar, q_toDv, q_toDt, q_toDo, q_stOv, q_stOt, q_stOo, q_rvOv, q_rvOt, q_rvOo, q_put, q_addI, q_addT, q_addS, q_subI, q_mulI, q_fdivI, q_modI, q_powI, q_shlI, q_shrI, q_addLtt, q_addLot, q_addLoo, q_neg, q_eq, q_ne, q_eqI, q_eqS, q_eqB, q_eqIB, q_eqBI, q_eqT, q_eqSI, q_eqIS, q_eqIT, q_eqTI, q_eqNI, q_eqIN, q_is, q_isnt, q_isNnon, q_isNint, q_isNbl, q_isNstr, q_isNtup, q_isNref, q_lt, q_gt, q_le, q_leT, q_ge, q_in, q_notin, q_trN, q_trB, q_trI, q_trT, q_trS, q_asB, q_subT, q_subR, q_subO, q_subM, q_nodeO, q_nodeR, q_nodeM, q_cutT, q_cutR, q_revT, q_intOf, q_lstR, q_lstM, q_lstO, q_lenT, q_lenS, q_lenR, q_lenO, q_lenM, q_abs, q_intI, q_intB, q_allM, q_anyM, q_sumM, q_tupT, q_tupM, q_tupO, q_tupR, q_listT, q_listM, q_listR, q_listO, q_isi, q_tyN, q_tyB, q_tyI, q_tyS, q_tyT, q_tyR, q_metOk, q_append, q_pop, q_popI, q_setO, q_setR, q_putO, q_walkT, q_walkM, q_walkR, q_walkO, q_setN, q_setM, q_setV, q_setlO, q_rng1, q_rng2, q_settV, q_settT, q_settO, q_opdV, q_opdN, q_addO, q_appL, q_popL, q_sortT, q_sortM, q_sortR, q_sortO, q_sset, q_max, q_min, q_mulT, q_cutO, q_cutM, q_enT, q_enM, q_inIT, q_inTT, q_inIR, q_eqMM, q_extend, q_insert, q_extL, q_insL, q_allO, q_allR, q_anyO, q_anyR, q_sumO, q_sumR, T_17_16]
          refine e16 tk 3 5 names ss h9 hn (by omega) (by omega) (by omega) (by omega) k9.ok fun h10 k10 => ?_
          simp [fn_mkF, semSs, semS, sems, sem, mean, ok_seq, ok_thenN, ok_drop, ok_mRet, ok_mPar, ok_bind', ok_bind, ok_pure, ok_pure', ok_val, ok_tmp, ok_bl, ok_ite, ok_call, ok_lc, ok_lc2, ok_op2, ok_cmp, ok_truth, ok_subO, ok_cutO, ok_revO, ok_negO, ok_intOf, ok_bi, ok_meth, ok_metOk, ok_putO, ok_isi, ok_mVar, ok_toD, ok_stO, ok_rvO, ok_asB, ok_settle, ok_mRng, ok_walkO, ok_enumO, ok_ssetO, ok_put, ok_putT, ok_puts0, ok_putsC, ok_setNode, ok_mDs0, ok_mDsC, ok_mOs0, ok_mOsC, ok_mPart0, ok_mPart1, ok_mIfs0, ok_mIfsC, okM_ok, okM_stuck, okM_exc, okM_ite, Ty.below, atI_nat, atI_0, atI_1, atI_2, atI_3, atI_4, atI_5, atI_6, atI_7, atI_last, q_dII, q_dSS, q_dBB, q_dNN, q_dTT, q_dNI, q_dIN, q_dSI, q_dIS, q_dIT, q_dTI, q_dNT, q_dTN, q_dST, q_dTS, q_ds0, q_dsC, q_dsL, q_dsR, q_fI, q_fB, q_fN, q_fT, q_fS, q_f0, q_fC, q_mVar, q_toDv, q_toDt, q_toDo, q_stOv, q_stOt, q_stOo, q_rvOv, q_rvOt, q_rvOo, q_put, q_addI, q_addT, q_addS, q_subI, q_mulI, q_fdivI, q_modI, q_powI, q_shlI, q_shrI, q_addLtt, q_addLot, q_addLoo, q_neg, q_eq, q_ne, q_eqI, q_eqS, q_eqB, q_eqIB, q_eqBI, q_eqT, q_eqSI, q_eqIS, q_eqIT, q_eqTI, q_eqNI, q_eqIN, q_is, q_isnt, q_isNnon, q_isNint, q_isNbl, q_isNstr, q_isNtup, q_isNref, q_lt, q_gt, q_le, q_leT, q_ge, q_in, q_notin, q_trN, q_trB, q_trI, q_trT, q_trS, q_asB, q_subT, q_subR, q_subO, q_subM, q_nodeO, q_nodeR, q_nodeM, q_cutT, q_cutR, q_revT, q_intOf, q_lstR, q_lstM, q_lstO, q_lenT, q_lenS, q_lenR, q_lenO, q_lenM, q_abs, q_intI, q_intB, q_allM, q_anyM, q_sumM, q_tupT, q_tupM, q_tupO, q_tupR, q_listT, q_listM, q_listR, q_listO, q_isi, q_tyN, q_tyB, q_tyI, q_tyS, q_tyT, q_tyR, q_metOk, q_append, q_pop, q_popI, q_setO, q_setR, q_putO, q_walkT, q_walkM, q_walkR, q_walkO, q_setN, q_setM, q_setV, q_setlO, q_rng1, q_rng2, q_settV, q_settT, q_settO, q_opdV, q_opdN, q_addO, q_appL, q_popL, q_sortT, q_sortM, q_sortR, q_sortO, q_sset, q_max, q_min, q_mulT, q_cutO, q_cutM, q_enT, q_enM, q_inIT, q_inTT, q_inIR, q_eqMM, q_extend, q_insert, q_extL, q_insL, q_allO, q_allR, q_anyO, q_anyR, q_sumO, q_sumR]
          exact (hQ _ _).mpr rfl
  obtain ⟨r, h, e, rfl⟩ := this
  exact ⟨h, e⟩
end LK

set_option linter.all false
set_option maxRecDepth 100000
set_option Elab.async false
set_option autoImplicit false
set_option maxHeartbeats 0
namespace LK
open PySem PySem.Spec PyProof.Rows L2 Y
def d0 : He.DefD := ⟨("size_of", none), "size_of", "size_of", defArgs (top 1), defBody (top 1), defScope (top 1), [], []⟩
def d1 : He.DefD := ⟨("holds", none), "holds", "holds", defArgs (top 2), defBody (top 2), defScope (top 2), [], []⟩
def d2 : He.DefD := ⟨("broken", none), "broken", "broken", defArgs (top 3), defBody (top 3), defScope (top 3), [], []⟩
def d3 : He.DefD := ⟨("all_things", none), "all_things", "all_things", defArgs (top 5), defBody (top 5), defScope (top 5), [], []⟩
def d4 : He.DefD := ⟨("sorted_worlds", none), "sorted_worlds", "sorted_worlds", defArgs (top 6), defBody (top 6), defScope (top 6), [], []⟩
def d5 : He.DefD := ⟨("all_worlds", none), "all_worlds", "all_worlds", defArgs (top 7), defBody (top 7), defScope (top 7), [], []⟩
def d6 : He.DefD := ⟨("count_worlds", none), "count_worlds", "count_worlds", defArgs (top 8), defBody (top 8), defScope (top 8), [], []⟩
def d7 : He.DefD := ⟨("_law_jar", none), "_law_jar", "_law_jar", defArgs (top 10), defBody (top 10), defScope (top 10), [], []⟩
def d8 : He.DefD := ⟨("_law_take", none), "_law_take", "_law_take", defArgs (top 11), defBody (top 11), defScope (top 11), [], []⟩
def d9 : He.DefD := ⟨("_law_same", none), "_law_same", "_law_same", defArgs (top 12), defBody (top 12), defScope (top 12), [], []⟩
def d10 : He.DefD := ⟨("_law_sentence", none), "_law_sentence", "_law_sentence", defArgs (top 13), defBody (top 13), defScope (top 13), [], []⟩
def d11 : He.DefD := ⟨("_law_book", none), "_law_book", "_law_book", defArgs (top 14), defBody (top 14), defScope (top 14), [], []⟩
def d12 : He.DefD := ⟨("_law_size", none), "_law_size", "_law_size", defArgs (top 15), defBody (top 15), defScope (top 15), [], []⟩
def d13 : He.DefD := ⟨("_law_holds", none), "_law_holds", "_law_holds", defArgs (top 16), defBody (top 16), defScope (top 16), [], []⟩
def d14 : He.DefD := ⟨("_law_is_good", none), "_law_is_good", "_law_is_good", defArgs (top 17), defBody (top 17), defScope (top 17), [], []⟩
def d15 : He.DefD := ⟨("_law_worlds", none), "_law_worlds", "_law_worlds", defArgs (top 18), defBody (top 18), defScope (top 18), [], []⟩
def d16 : He.DefD := ⟨("_law_asked", none), "_law_asked", "_law_asked", defArgs (top 19), defBody (top 19), defScope (top 19), [], []⟩
def d17 : He.DefD := ⟨("law", none), "law", "law", defArgs (top 20), defBody (top 20), defScope (top 20), [], []⟩
def dl : List He.DefD := [d0, d1, d2, d3, d4, d5, d6, d7, d8, d9, d10, d11, d12, d13, d14, d15, d16, d17]
def fa : List He.Fa := [.glo "size_of", .glo "holds", .glo "broken", .glo "all_things", .glo "sorted_worlds", .glo "all_worlds", .glo "count_worlds", .glo "_law_jar", .glo "_law_take", .glo "_law_same", .glo "_law_sentence", .glo "_law_book", .glo "_law_size", .glo "_law_holds", .glo "_law_is_good", .glo "_law_worlds", .glo "_law_asked", .glo "law", .free "abs", .free "all", .free "any", .free "bool", .free "enumerate", .free "int", .free "isinstance", .free "len", .free "list", .free "range", .free "sorted", .free "str", .free "tuple"]
abbrev R : PySem.W.OpenRow := PySem.W.OpenLaw.row PySem.Challenge.rw_somemore_k06_all_worlds
abbrev hk : PySem.W.Hook := He.hookD 4 fa dl
def ob (s : PySem.W.SharedT) : He.AlD := He.obsDG 4 fa dl (HandSHeadRun.getT s)
theorem ob_eq (s : PySem.W.SharedT) : ob s = hk.obs s.abs := He.obsDG_eq (HandSHeadRun.getT_eq s)
theorem run (w : World) : HandSHeadRun.RunEq R (PySem.W.view R.prog [20]) hk ob 2000 ["size_of", "holds", "broken", "all_things", "sorted_worlds", "all_worlds", "count_worlds", "_law_jar", "_law_take", "_law_same", "_law_sentence", "_law_book", "_law_size", "_law_holds", "_law_is_good", "_law_worlds", "_law_asked"] w := by
  intro os
  kernel_rfl
section
variable {P : Program} {w : World} {K : Frag} {mg : Str → Option Value} {base : Heap}
theorem facts {h : Heap} {f : Addr} (X : K.In h) (G : h.Ns mainGlobals mg) (hfa : mg ("law" : Str) = some (.ref f)) (c : He.SaysD fa dl K) :
    ∃ fd : FuncData, (∀ (s : Shared) (v : Value), BindsTo s fd ⟨[v], []⟩ [("script", v)]) ∧ ∀ base : Heap, FnOk P w K mg base CX0 18 f fd ["script"] (spD K XR0 1 m_17) := by
  have hbl : ∀ x ∈ blts, mg x = none := by
    intro x hx
    simp only [blts, List.mem_cons, List.not_mem_nil, or_false] at hx
    rcases hx with rfl | rfl | rfl | rfl | rfl | rfl | rfl | rfl | rfl | rfl | rfl | rfl | rfl
    · exact He.free_ok X G (c.fact 18 (f := .free "abs") rfl)
    · exact He.free_ok X G (c.fact 19 (f := .free "all") rfl)
    · exact He.free_ok X G (c.fact 20 (f := .free "any") rfl)
    · exact He.free_ok X G (c.fact 21 (f := .free "bool") rfl)
    · exact He.free_ok X G (c.fact 22 (f := .free "enumerate") rfl)
    · exact He.free_ok X G (c.fact 23 (f := .free "int") rfl)
    · exact He.free_ok X G (c.fact 24 (f := .free "isinstance") rfl)
    · exact He.free_ok X G (c.fact 25 (f := .free "len") rfl)
    · exact He.free_ok X G (c.fact 26 (f := .free "list") rfl)
    · exact He.free_ok X G (c.fact 27 (f := .free "range") rfl)
    · exact He.free_ok X G (c.fact 28 (f := .free "sorted") rfl)
    · exact He.free_ok X G (c.fact 29 (f := .free "str") rfl)
    · exact He.free_ok X G (c.fact 30 (f := .free "tuple") rfl)
  obtain ⟨fd0, F0⟩ := c.def_ 0 (d := d0) rfl
  have g0 := He.glo_ok X G (c.fact 0 (f := .glo "size_of") rfl)
  obtain ⟨fd1, F1⟩ := c.def_ 1 (d := d1) rfl
  have g1 := He.glo_ok X G (c.fact 1 (f := .glo "holds") rfl)
  obtain ⟨fd2, F2⟩ := c.def_ 2 (d := d2) rfl
  have g2 := He.glo_ok X G (c.fact 2 (f := .glo "broken") rfl)
  obtain ⟨fd3, F3⟩ := c.def_ 3 (d := d3) rfl
  have g3 := He.glo_ok X G (c.fact 3 (f := .glo "all_things") rfl)
  obtain ⟨fd4, F4⟩ := c.def_ 4 (d := d4) rfl
  have g4 := He.glo_ok X G (c.fact 4 (f := .glo "sorted_worlds") rfl)
  obtain ⟨fd5, F5⟩ := c.def_ 5 (d := d5) rfl
  have g5 := He.glo_ok X G (c.fact 5 (f := .glo "all_worlds") rfl)
  obtain ⟨fd6, F6⟩ := c.def_ 6 (d := d6) rfl
  have g6 := He.glo_ok X G (c.fact 6 (f := .glo "count_worlds") rfl)
  obtain ⟨fd7, F7⟩ := c.def_ 7 (d := d7) rfl
  have g7 := He.glo_ok X G (c.fact 7 (f := .glo "_law_jar") rfl)
  obtain ⟨fd8, F8⟩ := c.def_ 8 (d := d8) rfl
  have g8 := He.glo_ok X G (c.fact 8 (f := .glo "_law_take") rfl)
  obtain ⟨fd9, F9⟩ := c.def_ 9 (d := d9) rfl
  have g9 := He.glo_ok X G (c.fact 9 (f := .glo "_law_same") rfl)
  obtain ⟨fd10, F10⟩ := c.def_ 10 (d := d10) rfl
  have g10 := He.glo_ok X G (c.fact 10 (f := .glo "_law_sentence") rfl)
  obtain ⟨fd11, F11⟩ := c.def_ 11 (d := d11) rfl
  have g11 := He.glo_ok X G (c.fact 11 (f := .glo "_law_book") rfl)
  obtain ⟨fd12, F12⟩ := c.def_ 12 (d := d12) rfl
  have g12 := He.glo_ok X G (c.fact 12 (f := .glo "_law_size") rfl)
  obtain ⟨fd13, F13⟩ := c.def_ 13 (d := d13) rfl
  have g13 := He.glo_ok X G (c.fact 13 (f := .glo "_law_holds") rfl)
  obtain ⟨fd14, F14⟩ := c.def_ 14 (d := d14) rfl
  have g14 := He.glo_ok X G (c.fact 14 (f := .glo "_law_is_good") rfl)
  obtain ⟨fd15, F15⟩ := c.def_ 15 (d := d15) rfl
  have g15 := He.glo_ok X G (c.fact 15 (f := .glo "_law_worlds") rfl)
  obtain ⟨fd16, F16⟩ := c.def_ 16 (d := d16) rfl
  have g16 := He.glo_ok X G (c.fact 16 (f := .glo "_law_asked") rfl)
  obtain ⟨fd17, F17⟩ := c.def_ 17 (d := d17) rfl
  have g17 := He.glo_ok X G (c.fact 17 (f := .glo "law") rfl)
  have e := hfa.symm.trans g17
  cases e
  have b := FunD.bindsA (ps := ["script"]) F17 fun _ _ _ _ _ _ us hl => match us, hl with | [_], _ => rfl
  refine ⟨fd17, fun s v => b s [v] rfl, fun base => ?_⟩
  have t0 : TabOk P w K mg base kwb fns0 0 T_0 := tab0
  have f0 := t0.fn F0 s0 hbl c0
  have t1 : TabOk P w K mg base kwb fns1 1 T_1 := t0.succ f0 g0 F0.kp (F0.bindsN fun _ _ _ _ _ _ us hl => match us, hl with | [_, _], _ => rfl) (by decide +kernel) (by
    intro q hq e
    simp only [kwb, List.mem_cons, List.not_mem_nil, or_false] at hq
    rcases hq with rfl | rfl
    · exact absurd e (by decide +kernel)
    · exact absurd e (by decide +kernel))
  have f1 := t1.fn F1 s1 hbl c1
  have t2 : TabOk P w K mg base kwb fns2 2 T_2 := t1.succ f1 g1 F1.kp (F1.bindsN fun _ _ _ _ _ _ us hl => match us, hl with | [_, _], _ => rfl) (by decide +kernel) (by
    intro q hq e
    simp only [kwb, List.mem_cons, List.not_mem_nil, or_false] at hq
    rcases hq with rfl | rfl
    · exact absurd e (by decide +kernel)
    · exact absurd e (by decide +kernel))
  have f2 := t2.fn F2 s2 hbl c2
  have t3 : TabOk P w K mg base kwb fns3 3 T_3 := t2.succ f2 g2 F2.kp (F2.bindsN fun _ _ _ _ _ _ us hl => match us, hl with | [_, _], _ => rfl) (by decide +kernel) (by
    intro q hq e
    simp only [kwb, List.mem_cons, List.not_mem_nil, or_false] at hq
    rcases hq with rfl | rfl
    · exact absurd e (by decide +kernel)
    · exact absurd e (by decide +kernel))
  have f3 := t3.fn F3 s3 hbl c3
  have t4 : TabOk P w K mg base kwb fns4 4 T_4 := t3.succ f3 g3 F3.kp (F3.bindsN fun _ _ _ _ _ _ us hl => match us, hl with | [_], _ => rfl) (by decide +kernel) (by
    intro q hq e
    simp only [kwb, List.mem_cons, List.not_mem_nil, or_false] at hq
    rcases hq with rfl | rfl
    · exact absurd e (by decide +kernel)
    · exact absurd e (by decide +kernel))
  have f4 := t4.fn F4 s4 hbl c4
  have t5 : TabOk P w K mg base kwb fns5 5 T_5 := t4.succ f4 g4 F4.kp (F4.bindsN fun _ _ _ _ _ _ us hl => match us, hl with | [_, _], _ => rfl) (by decide +kernel) (by
    intro q hq e
    simp only [kwb, List.mem_cons, List.not_mem_nil, or_false] at hq
    rcases hq with rfl | rfl
    · exact absurd e (by decide +kernel)
    · exact absurd e (by decide +kernel))
  have f5 := t5.fn F5 s5 hbl c5
  have t6 : TabOk P w K mg base kwb fns6 6 T_6 := t5.succ f5 g5 F5.kp (F5.bindsN fun _ _ _ _ _ _ us hl => match us, hl with | [_, _], _ => rfl) (by decide +kernel) (by
    intro q hq e
    simp only [kwb, List.mem_cons, List.not_mem_nil, or_false] at hq
    rcases hq with rfl | rfl
    · exact kb_of (nm := "all_worlds") (st := top 7) F5 fun _ _ _ _ _ _ us ws h1 h2 => match us, ws, h1, h2 with | [], [_, _], _, _ => by kernel_rfl
    · exact absurd e (by decide +kernel))
  have f6 := t6.fn F6 s6 hbl c6
  have t7 : TabOk P w K mg base kwb fns7 7 T_7 := t6.succ f6 g6 F6.kp (F6.bindsN fun _ _ _ _ _ _ us hl => match us, hl with | [_, _], _ => rfl) (by decide +kernel) (by
    intro q hq e
    simp only [kwb, List.mem_cons, List.not_mem_nil, or_false] at hq
    rcases hq with rfl | rfl
    · exact absurd e (by decide +kernel)
    · exact kb_of (nm := "count_worlds") (st := top 8) F6 fun _ _ _ _ _ _ us ws h1 h2 => match us, ws, h1, h2 with | [], [_, _], _, _ => by kernel_rfl)
  have f7 := t7.fn F7 s7 hbl c7
  have t8 : TabOk P w K mg base kwb fns8 8 T_8 := t7.succ f7 g7 F7.kp (F7.bindsN fun _ _ _ _ _ _ us hl => match us, hl with | [_], _ => rfl) (by decide +kernel) (by
    intro q hq e
    simp only [kwb, List.mem_cons, List.not_mem_nil, or_false] at hq
    rcases hq with rfl | rfl
    · exact absurd e (by decide +kernel)
    · exact absurd e (by decide +kernel))
  have f8 := t8.fn F8 s8 hbl c8
  have t9 : TabOk P w K mg base kwb fns9 9 T_9 := t8.succ f8 g8 F8.kp (F8.bindsN fun _ _ _ _ _ _ us hl => match us, hl with | [_, _], _ => rfl) (by decide +kernel) (by
    intro q hq e
    simp only [kwb, List.mem_cons, List.not_mem_nil, or_false] at hq
    rcases hq with rfl | rfl
    · exact absurd e (by decide +kernel)
    · exact absurd e (by decide +kernel))
  have f9 := t9.fn F9 s9 hbl c9
  have t10 : TabOk P w K mg base kwb fns10 10 T_10 := t9.succ f9 g9 F9.kp (F9.bindsN fun _ _ _ _ _ _ us hl => match us, hl with | [_, _], _ => rfl) (by decide +kernel) (by
    intro q hq e
    simp only [kwb, List.mem_cons, List.not_mem_nil, or_false] at hq
    rcases hq with rfl | rfl
    · exact absurd e (by decide +kernel)
    · exact absurd e (by decide +kernel))
  have f10 := t10.fn F10 s10 hbl c10
  have t11 : TabOk P w K mg base kwb fns11 11 T_11 := t10.succ f10 g10 F10.kp (F10.bindsN fun _ _ _ _ _ _ us hl => match us, hl with | [_, _, _], _ => rfl) (by decide +kernel) (by
    intro q hq e
    simp only [kwb, List.mem_cons, List.not_mem_nil, or_false] at hq
    rcases hq with rfl | rfl
    · exact absurd e (by decide +kernel)
    · exact absurd e (by decide +kernel))
  have f11 := t11.fn F11 s11 hbl c11
  have t12 : TabOk P w K mg base kwb fns12 12 T_12 := t11.succ f11 g11 F11.kp (F11.bindsN fun _ _ _ _ _ _ us hl => match us, hl with | [_, _, _, _], _ => rfl) (by decide +kernel) (by
    intro q hq e
    simp only [kwb, List.mem_cons, List.not_mem_nil, or_false] at hq
    rcases hq with rfl | rfl
    · exact absurd e (by decide +kernel)
    · exact absurd e (by decide +kernel))
  have f12 := t12.fn F12 s12 hbl c12
  have t13 : TabOk P w K mg base kwb fns13 13 T_13 := t12.succ f12 g12 F12.kp (F12.bindsN fun _ _ _ _ _ _ us hl => match us, hl with | [_, _], _ => rfl) (by decide +kernel) (by
    intro q hq e
    simp only [kwb, List.mem_cons, List.not_mem_nil, or_false] at hq
    rcases hq with rfl | rfl
    · exact absurd e (by decide +kernel)
    · exact absurd e (by decide +kernel))
  have f13 := t13.fn F13 s13 hbl c13
  have t14 : TabOk P w K mg base kwb fns14 14 T_14 := t13.succ f13 g13 F13.kp (F13.bindsN fun _ _ _ _ _ _ us hl => match us, hl with | [_, _], _ => rfl) (by decide +kernel) (by
    intro q hq e
    simp only [kwb, List.mem_cons, List.not_mem_nil, or_false] at hq
    rcases hq with rfl | rfl
    · exact absurd e (by decide +kernel)
    · exact absurd e (by decide +kernel))
  have f14 := t14.fn F14 s14 hbl c14
  have t15 : TabOk P w K mg base kwb fns15 15 T_15 := t14.succ f14 g14 F14.kp (F14.bindsN fun _ _ _ _ _ _ us hl => match us, hl with | [_, _], _ => rfl) (by decide +kernel) (by
    intro q hq e
    simp only [kwb, List.mem_cons, List.not_mem_nil, or_false] at hq
    rcases hq with rfl | rfl
    · exact absurd e (by decide +kernel)
    · exact absurd e (by decide +kernel))
  have f15 := t15.fn F15 s15 hbl c15
  have t16 : TabOk P w K mg base kwb fns16 16 T_16 := t15.succ f15 g15 F15.kp (F15.bindsN fun _ _ _ _ _ _ us hl => match us, hl with | [_, _], _ => rfl) (by decide +kernel) (by
    intro q hq e
    simp only [kwb, List.mem_cons, List.not_mem_nil, or_false] at hq
    rcases hq with rfl | rfl
    · exact absurd e (by decide +kernel)
    · exact absurd e (by decide +kernel))
  have f16 := t16.fn F16 s16 hbl c16
  have t17 : TabOk P w K mg base kwb fns17 17 T_17 := t16.succ f16 g16 F16.kp (F16.bindsN fun _ _ _ _ _ _ us hl => match us, hl with | [_, _, _], _ => rfl) (by decide +kernel) (by
    intro q hq e
    simp only [kwb, List.mem_cons, List.not_mem_nil, or_false] at hq
    rcases hq with rfl | rfl
    · exact absurd e (by decide +kernel)
    · exact absurd e (by decide +kernel))
  have f17 := t17.fn F17 s17 hbl c17
  exact f17
end
end LK
open PySem PySem.W PySem.Calls PyProof.Rows L2 Y
theorem PySem.Challenge.cw_somemore_k06_all_worlds_holds : PySem.Challenge.rw_somemore_k06_all_worlds.Holds := by
  w_on; o_law
  refine HandSHeadRun.head_any (r := OpenLaw.row PySem.Challenge.rw_somemore_k06_all_worlds) (q := view (OpenLaw.row PySem.Challenge.rw_somemore_k06_all_worlds).prog [20]) (H := LK.hk) (ob := LK.ob) (M := 2000) (loose := ["size_of", "holds", "broken", "all_things", "sorted_worlds", "all_worlds", "count_worlds", "_law_jar", "_law_take", "_law_same", "_law_sentence", "_law_book", "_law_size", "_law_holds", "_law_is_good", "_law_worlds", "_law_asked"]) (d := HandSHeadRun.topDef (OpenLaw.row PySem.Challenge.rw_somemore_k06_all_worlds).prog 20) (kwd := []) LK.ob_eq
    (by kernel_rfl) (fun s => by kernel_rfl) LK.run (by kernel_rfl) (by kernel_rfl) (by kernel_rfl) (by rfl) (by first | assumption | decide +kernel) (by decide +kernel) ⟨rfl, rfl, rfl, rfl, rfl, by decide +kernel⟩ ?hw ?hc
  case hw => w_witness2
  case hc =>
    refine L2.walk_ofE (l := PySem.Challenge.rw_somemore_k06_all_worlds) (n := 63) (k := 18) (x := "script") (CX := L2.CX0) rfl (by decide) (by kernel_rfl) ⟨rfl, by decide, by decide⟩ ?F (fun _ _ _ _ z => z)
    intro w mg fa h Z G hmg0
    obtain ⟨K, KX, c⟩ := Z
    have hmg : mg ("law" : PySem.Str) = some (.ref fa) := by
      have e : (HandSHeadRun.topDef (OpenLaw.row PySem.Challenge.rw_somemore_k06_all_worlds).prog 20).name = ("law" : PySem.Str) := by kernel_rfl
      rw [← e]
      exact hmg0
    obtain ⟨fd, hb, hF⟩ := LK.facts (P := (PySem.Challenge.rw_somemore_k06_all_worlds).prog) (w := w) KX G hmg c
    exact ⟨K, fd, spD K XR0 1 LK.m_17, KX, hb, fun H a ns hl hO hS => law_sp hO hS (LK.law_true ns hl), fun base _ _ => hF base⟩

